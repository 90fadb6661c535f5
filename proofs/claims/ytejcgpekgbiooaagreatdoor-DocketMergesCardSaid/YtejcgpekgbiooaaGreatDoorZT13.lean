/- Texts of this claim. -/
import Derived.Test.YtejcgpekgbiooaaGreatDoorZT12
set_option linter.all false
set_option maxRecDepth 100000
set_option maxHeartbeats 0
open Nat renaming zero_le→eBb
open Bool renaming and_eq_true→eAf
open List renaming mem_append→eBx,mem_cons→eBa,not_mem_nil→eCl
section
namespace Go.Am
open Go Go.RowKit Go.Proofs D12
theorem v99:z9v (w83 35 [cdA z91,cdA [d1,d0,d2,d3]]) (.d (.int .i64 0))=true:=by kernel_rfl
def eqI (a b:Int):Bool:=decide (a=b)
theorem u2m {a b:Int} (h:eqI a b=true):a=b:=of_decide_eq_true h
def x9x:Ctr:=⟨27,[.list 4],[],[(.ret,⟨[(0, .tuple [.list 1, .int .i64])],[],1⟩)]⟩
def t4q (x:(List (List D)×Unit)):Option (List (List D)×(Int×Unit)):=bif z1l x.1 z91 then some (R27,(0,())) else none
def t54:Prim→Tup (x9x).scs→Option (STup (scss (x9x).outs)):=fun _ x=>t4q x
theorem u9d:CtrOk Tryz.prog x9x (t54 std):=by
 refine ⟨enters_of Tryz.func27 rfl rfl,fun (x:(List (List D)×Unit)) y a=>?_⟩
 obtain ⟨c,u⟩:=x
 change t4q (c,u)=_ at a
 unfold t4q at a
 cases b:(z1l c z91) with
 |true=>
  simp only [b,cond_true] at a
  cases a
  refine ⟨eBb _,?_⟩
  show z3s _ 27 [.d (.list false 4 c)] [] (.tuple [.d (.list false 1 R27), .d (.int .i64 0)]) []
  exact z6g (z7n u8u) (v8l b [])
 |false=>
  simp only [b,cond_false] at a
  cases a
def x9w:Ctr:=⟨29,[.list 4],[],[(.ret,⟨[(0, .tuple [.list 4, .int .i64])],[],1⟩)]⟩
def t4p (x:(List (List D)×Unit)):Option (List (List D)×(Int×Unit)):=bif z1l x.1 z91 then some (z0a ff [d1,d0,d2,d3],(0,())) else none
def t52:Prim→Tup (x9w).scs→Option (STup (scss (x9w).outs)):=fun _ x=>t4p x
theorem u9c:CtrOk Tryz.prog x9w (t52 std):=by
 refine ⟨enters_of Tryz.func29 rfl rfl,fun (x:(List (List D)×Unit)) y a=>?_⟩
 obtain ⟨c,u⟩:=x
 change t4p (c,u)=_ at a
 unfold t4p at a
 cases b:(z1l c z91) with
 |true=>
  simp only [b,cond_true] at a
  cases a
  refine ⟨eBb _,?_⟩
  show z3s _ 29 [.d (.list false 4 c)] [] (.tuple [cdA [d1,d0,d2,d3], .d (.int .i64 0)]) []
  exact z6g (z7n u8t) (v8l b [])
 |false=>
  simp only [b,cond_false] at a
  cases a
def x9v:Ctr:=⟨31,[.list 4, .int .i64],[],[(.ret,⟨[(0, .tuple [.list 4, .int .i64])],[],1⟩)]⟩
def t4o (x:(List (List D)×(Int×Unit))):Option (List (List D)×(Int×Unit)):=bif z1l x.1 z91&&eqI x.2.1 2 then some (z0a ff [d0,d1,d2],(0,())) else none
def t50:Prim→Tup (x9v).scs→Option (STup (scss (x9v).outs)):=fun _ x=>t4o x
theorem u9b:CtrOk Tryz.prog x9v (t50 std):=by
 refine ⟨enters_of Tryz.func31 rfl rfl,fun (x:(List (List D)×(Int×Unit))) y a=>?_⟩
 obtain ⟨e,c,u⟩:=x
 change t4o (e,c,u)=_ at a
 unfold t4o at a
 cases b:(z1l e z91&&eqI c 2) with
 |true=>
  simp only [b,cond_true] at a
  cases a
  simp only [eAf] at b
  refine ⟨eBb _,?_⟩
  show z3s _ 31 [.d (.list false 4 e), .d (.int .i64 c)] [] (.tuple [cdA [d0,d1,d2], .d (.int .i64 0)]) []
  rw [u2m b.2]
  exact z6g (z7n u8s) (v8l b.1 _)
 |false=>
  simp only [b,cond_false] at a
  cases a
def x9t:Ctr:=⟨46,[.list 4, .list 4],[],[(.ret,⟨[(0, .tuple [.list 4, .int .i64])],[],1⟩)]⟩
def t4m (x:(List (List D)×(List (List D)×Unit))):Option (List (List D)×(Int×Unit)):=bif z1l x.1 [d0,d2]&&z1l x.2.1 [d1,d2] then some (z0a ff [d1,d0,d2],(0,())) else bif z1l x.1 [d0]&&z1l x.2.1 [d3] then some (z0a ff [],(16,())) else none
def t5y:Prim→Tup (x9t).scs→Option (STup (scss (x9t).outs)):=fun _ x=>t4m x
theorem u8z:CtrOk Tryz.prog x9t (t5y std):=by
 refine ⟨enters_of Tryz.func46 rfl rfl,fun (x:(List (List D)×(List (List D)×Unit))) y a=>?_⟩
 obtain ⟨f,e,u⟩:=x
 change t4m (f,e,u)=_ at a
 unfold t4m at a
 cases b:(z1l f [d0,d2]&&z1l e [d1,d2]) with
 |true=>
  simp only [b,cond_true] at a
  cases a
  simp only [eAf] at b
  refine ⟨eBb _,?_⟩
  show z3s _ 46 [.d (.list false 4 f), .d (.list false 4 e)] [] (.tuple [cdA [d1,d0,d2], .d (.int .i64 0)]) []
  exact z6g (z7n v98) (x5j b.1 b.2)
 |false=>
  cases c:(z1l f [d0]&&z1l e [d3]) with
  |true=>
   simp only [c,b,cond_true,cond_false] at a
   cases a
   simp only [eAf] at c
   refine ⟨eBb _,?_⟩
   show z3s _ 46 [.d (.list false 4 f), .d (.list false 4 e)] [] (.tuple [cdA [], .d (.int .i64 16)]) []
   exact z6g (z7n v97) (x5j c.1 c.2)
  |false=>
   simp only [b,c,cond_false] at a
   cases a
def x9s:Ctr:=⟨48,[.list 4, .list 4],[],[(.ret,⟨[(0, .tuple [.list 1, .int .i64])],[],1⟩)]⟩
def t4l (x:(List (List D)×(List (List D)×Unit))):Option (List (List D)×(Int×Unit)):=bif z1l x.1 z91&&z1l x.2.1 [d1,d0,d3,d2] then some (z0i [4,9,4],(0,())) else none
def t5x:Prim→Tup (x9s).scs→Option (STup (scss (x9s).outs)):=fun _ x=>t4l x
theorem u8y:CtrOk Tryz.prog x9s (t5x std):=by
 refine ⟨enters_of Tryz.func48 rfl rfl,fun (x:(List (List D)×(List (List D)×Unit))) y a=>?_⟩
 obtain ⟨e,c,u⟩:=x
 change t4l (e,c,u)=_ at a
 unfold t4l at a
 cases b:(z1l e z91&&z1l c [d1,d0,d3,d2]) with
 |true=>
  simp only [b,cond_true] at a
  cases a
  simp only [eAf] at b
  refine ⟨eBb _,?_⟩
  show z3s _ 48 [.d (.list false 4 e), .d (.list false 4 c)] [] (.tuple [.d (.list false 1 (z0i [4,9,4])), .d (.int .i64 0)]) []
  exact z6g (z7n u8r) (x5j b.1 b.2)
 |false=>
  simp only [b,cond_false] at a
  cases a
def x9u:Ctr:=⟨35,[.list 4, .list 4],[],[(.ret,⟨[(0, .int .i64)],[],1⟩)]⟩
def t4n (x:(List (List D)×(List (List D)×Unit))):Option (Int×Unit):=bif z1l x.1 z91&&z1l x.2.1 [d1,d0,d3,d2] then some (24,()) else bif z1l x.1 z91&&z1l x.2.1 [d1,d0,d2,d3] then some (0,()) else none
def t5z:Prim→Tup (x9u).scs→Option (STup (scss (x9u).outs)):=fun _ x=>t4n x
theorem u9a:CtrOk Tryz.prog x9u (t5z std):=by
 refine ⟨enters_of Tryz.func35 rfl rfl,fun (x:(List (List D)×(List (List D)×Unit))) y a=>?_⟩
 obtain ⟨f,e,u⟩:=x
 change t4n (f,e,u)=_ at a
 unfold t4n at a
 cases b:(z1l f z91&&z1l e [d1,d0,d3,d2]) with
 |true=>
  simp only [b,cond_true] at a
  cases a
  simp only [eAf] at b
  refine ⟨eBb _,?_⟩
  show z3s _ 35 [.d (.list false 4 f), .d (.list false 4 e)] [] (.d (.int .i64 24)) []
  exact z6g (z7n u0a) (x5j b.1 b.2)
 |false=>
  cases c:(z1l f z91&&z1l e [d1,d0,d2,d3]) with
  |true=>
   simp only [c,b,cond_true,cond_false] at a
   cases a
   simp only [eAf] at c
   refine ⟨eBb _,?_⟩
   show z3s _ 35 [.d (.list false 4 f), .d (.list false 4 e)] [] (.d (.int .i64 0)) []
   exact z6g (z7n v99) (x5j c.1 c.2)
  |false=>
   simp only [b,c,cond_false] at a
   cases a
noncomputable def t5o:List CF:=[⟨x9x,t54⟩,⟨x9w,t52⟩,⟨x9v,t50⟩,⟨x9t,t5y⟩,⟨x9s,t5x⟩,⟨x9u,t5z⟩]++u7w
theorem v7h:GamOk Tryz.prog t5o:=by
 intro cf h
 rcases eBx.1 h with h|h
 ·simp only [eBa,eCl,or_false] at h
  rcases h with rfl|rfl|rfl|rfl|rfl|rfl
  ·exact u9d
  ·exact u9c
  ·exact u9b
  ·exact u8z
  ·exact u8y
  ·exact u9a
 ·exact w5i cf h
noncomputable def orcU:Orc opt:=u0k opt std t5o v4j [(88,[false,true,true,true,true,true,true,true]),(16,[])]
end Go.Am
end
