/- Texts of this claim. -/
import Derived.Test.YtjlhhpjkmgediaaT4
import Derived.KernelRfl
import Derived.Test.YtjlhhpjkmgediaaProg
set_option linter.unusedVariables false
set_option linter.unusedSimpArgs false
set_option linter.unusedSectionVars false
set_option maxRecDepth 100000
set_option maxHeartbeats 0
section
namespace Go.Am
noncomputable def z9s (pos:List Bool):Code:=(z07 P34 46 pos).getD .skip
noncomputable def z6j (pos:List Bool):Array Oper:=
 match z9s pos with
 | .region _ ops _=>ops
 |_=>#[]
def x50:List Bool:=[false,false,true,false,true,true,true]
def y80:List Bool:=[false,false,true,true]++x50
theorem z3x {p:List Bool} {i:Nat} {dst:Option Tmp} {op:Op} (h:((z6j p)[i]?.map fun o=>(o.dst,o.op,o.guard))=some (dst,op,none)):∃ o,(z6j p)[i]?=some o∧o.dst=dst∧o.op=op∧o.guard=none:=by
 cases ho:(z6j p)[i]? with
 |none=>rw [ho] at h; cases h
 |some o=>
  rw [ho] at h
  simp only [Option.map_some,Option.some.injEq,Prod.mk.injEq] at h
  exact ⟨o,rfl,h.1,h.2.1,h.2.2⟩
def z56 (n:Nat):List (List AV):=(List.range n).map fun i=>[AV.map (2+4*i),AV.map (3+4*i)]
theorem x7c (n:Nat):(z56 n).length=n:=by simp [z56]
theorem y57 (n:Nat):z56 (n+1)=z56 n++[[AV.map (2+4*n),AV.map (3+4*n)]]:=by simp [z56,List.range_succ]
def slJ (n:Nat):AV:=if n=0 then .d (.list true 0 []) else .slice (4*n+1) 2 0 n none
def bkC (N J S:Int) (V:List (List D)):List AV:=[.d (.int .i64 N), .d (.int .i64 J), .d (.int .i64 S), .d (.list false 3 V)]
structure x97 (h:List AO) (N J S:Int) (V:List (List D)) (n:Nat) (f:Nat→JM×JM):Prop where
 len:h.length=2+4*n
 b0:z0e h 0= .box (bkC N J S V)
 b1:z0e h 1= .box (bkC N J S V++[slJ n])
 arr:0<n→z0e h (4*n+1)= .arow (z56 n)
 said:∀ i,i<n→z0e h (2+4*i)= .map (EJ.enc (f i).1)
 slip:∀ i,i<n→z0e h (3+4*i)= .map (EJ.enc (f i).2)
def w47:TI:=⟨1,24,false,[.list true 0 []], .slc 69 2 16 true [.nilm, .nilm],none⟩
def w81:TI:=⟨1,8,false,[.nilm], .map [.i, .i] true (.int .i64 0),none⟩
def v3x:TI:=⟨2,16,true,[.nilm, .nilm], .struct [(0,1,false),(1,1,false)],none⟩
def ti66:TI:=⟨5,72,true,[.int .i64 0, .int .i64 0, .int .i64 0, .list true 0 [], .list true 0 []], .struct [(0,4,true),(4,1,false)],none⟩
theorem ty66:E34.T 66=some ti66:=by kernel_rfl
theorem w0o:E34.T 64=some w47:=by kernel_rfl
theorem w43:E34.T 67=some w81:=by kernel_rfl
theorem v3w:E34.T 69=some v3x:=by kernel_rfl
theorem w32 {env:List (Nat×AV)} {h:List AO} {N J S:Int} {V:List (List D)} {v:AV} {new a:Nat} (ha:z0r env a= .bptr 1 4) (hh:z0e h 1= .box (bkC N J S V++[v])) (hv:z3z false [v]=some v):
  z0j std E34.T env h new false [] [] (.load 64 (.tmp a))=some ⟨true,v,[]⟩:=by
 simp only [z0j,w0o,z0n,ha,z5n,z1n,hh,bkC,w47]
 show (z3z false [v]).bind ok=_
 rw [hv]; rfl
theorem w5f {env:List (Nat×AV)} {h:List AO} {N J S:Int} {V:List (List D)} {v:AV} {new a c id l:Nat} (ha:z0r env a= .bptr 1 4) (hc:z0r env c= .slice id 2 0 l none) (hh:z0e h 1= .box (bkC N J S V++[v])):
  z0j std E34.T env h new false [] [] (.store 64 (.tmp a) (.tmp c))=some ⟨true, .bot,[(1, .box (bkC N J S V++[.slice id 2 0 l none]))]⟩:=by
 simp only [z0j,w0o,z0n,ha,hc,z2e,z1y,w47,z1m,hh,bkC]
 rfl
theorem x7y {env:List (Nat×AV)} {h:List AO} {new:Nat}:z0j std E34.T env h new false [] [] (.makeMap 67 none)=some ⟨true, .map new,[(new, .map [])]⟩:=by
 simp only [z0j,w43]
 rfl
theorem w78 {env:List (Nat×AV)} {h:List AO} {new a b x y:Nat} (ha:z0r env a= .map x) (hb:z0r env b= .map y):
  z0j std E34.T env h new false [] [] (.build 69 #[(0, .tmp a),(1, .tmp b)])=some ⟨true, .agg [.map x, .map y],[]⟩:=by
 simp only [z0j,v3w]
 show z53 v3x [(0,z0r env a),(1,z0r env b)]=_
 rw [ha,hb]; rfl
theorem v5x {env:List (Nat×AV)} {h:List AO} {new c x y:Nat} (hc:z0r env c= .agg [.map x, .map y]):
  z0j std E34.T env h new false [] [] (.buildSlice 64 1 #[(0, .tmp c)])=some ⟨true, .slice new 2 0 1 (some 1),[(new, .arow [[.map x, .map y]])]⟩:=by
 simp only [z0j,w0o]
 show z3l w47 new 1 [(0,z0r env c)] []=_
 rw [hc]; rfl
theorem x6k {env:List (Nat×AV)} {h:List AO} {a c:Nat} (ha:z0r env a= .d (.list true 0 [])):(z1b std E34.T env h (.call ⟨.builtin .append,#[.tmp a, .tmp c],#[64,64]⟩)).ok true [] []:=by
 show (match [z0r env a,z0r env c] with|[s,x]=>x6o (z5x std s x)|_=> .none).ok true [] []
 rw [ha]
 rfl
theorem x6j {env:List (Nat×AV)} {h:List AO} {a c id l:Nat} (ha:z0r env a= .slice id 2 0 l none):(z1b std E34.T env h (.call ⟨.builtin .append,#[.tmp a, .tmp c],#[64,64]⟩)).ok false [] []:=by
 show (match [z0r env a,z0r env c] with|[s,x]=>x6o (z5x std s x)|_=> .none).ok false [] []
 rw [ha]
 exact trivial
theorem w3i {env:List (Nat×AV)} {h:List AO} {new a c lit x y:Nat} (ha:z0r env a= .d (.list true 0 [])) (hc:z0r env c= .slice lit 2 0 1 (some 1)) (hh:z0e h lit= .arow [[.map x, .map y]]):
  z0j std E34.T env h new true [] [] (.call ⟨.builtin .append,#[.tmp a, .tmp c],#[64,64]⟩)=some ⟨true, .slice new 2 0 1 none,[(new, .arow [[.map x, .map y]])]⟩:=by
 show z1e std E34.T h new true [] .append [64,64] [z0r env a,z0r env c]=_
 rw [ha,hc]
 simp only [z1e,w0o,w47,z3e,z6k,hh]
 rfl
theorem w3h {env:List (Nat×AV)} {h:List AO} {new a c lit id x y n:Nat} {E:List (List AV)} (ha:z0r env a= .slice id 2 0 n none) (hc:z0r env c= .slice lit 2 0 1 (some 1)) (hh:z0e h lit= .arow [[.map x, .map y]]) (hid:z0e h id= .arow E) (hE:E.length=n) (hl:n≤1000):
  z0j std E34.T env h new false [] [] (.call ⟨.builtin .append,#[.tmp a, .tmp c],#[64,64]⟩)=some ⟨true, .slice new 2 0 (n+1) none,[(id, .dead),(new, .arow (E++[[.map x, .map y]]))]⟩:=by
 show z1e std E34.T h new false [] .append [64,64] [z0r env a,z0r env c]=_
 rw [ha,hc]
 have h1:std.leN (std.add 0 n) E.length=true:=by
  show Nat.ble (0+n) E.length=true
  exact Nat.ble_eq_true_of_le (by omega)
 have h2:std.leN (std.add n 1) y1f=true:=by
  show Nat.ble (n+1) 1000000=true
  exact Nat.ble_eq_true_of_le (by omega)
 have h3:(E.drop 0).take n=E:=by rw [List.drop_zero]; exact List.take_of_length_le (by omega)
 simp only [z1e,w0o,w47,z3e,z6k,hh,hid,z9x,h1,h2,h3]
 rfl
theorem x97.more {h:List AO} {N J S:Int} {V:List (List D)} {n:Nat} {f:Nat→JM×JM} (hf:x97 h N J S V n f) {h':List AO} (hl:h'.length=2+4*(n+1)) (b0:z0e h' 0=z0e h 0) (b1:z0e h' 1= .box (bkC N J S V++[slJ (n+1)]))
  (ha:z0e h' (4*n+5)= .arow (z56 (n+1))) (h1:z0e h' (2+4*n)= .map []) (h2:z0e h' (3+4*n)= .map []) (ho:∀ i,i<n→z0e h' (2+4*i)=z0e h (2+4*i)∧z0e h' (3+4*i)=z0e h (3+4*i)) (hn:f n=([],[])):x97 h' N J S V (n+1) f where
 len:=hl
 b0:=b0.trans hf.b0
 b1:=b1
 arr:=fun _=>by rw [show 4*(n+1)+1=4*n+5 by omega]; exact ha
 said:=fun i hi=>by
  by_cases e:i=n
  ·subst e; rw [h1,hn]; rfl
  ·rw [(ho i (by omega)).1]; exact hf.said i (by omega)
 slip:=fun i hi=>by
  by_cases e:i=n
  ·subst e; rw [h2,hn]; rfl
  ·rw [(ho i (by omega)).2]; exact hf.slip i (by omega)
theorem y5w {env:List (Nat×AV)} {h:List AO} {a:Nat} {l:List AV} (ha:z0r env a= .bptr 1 4) (hh:z0e h 1= .box l):(z1b std E34.T env h (.load 64 (.tmp a))).ok false [] []:=by
 simp only [z1b,z0n,ha,z5n,z24,hh,y3h.ok]
theorem x1b {env:List (Nat×AV)} {h:List AO} {a c:Nat} {l:List AV} (ha:z0r env a= .bptr 1 4) (hh:z0e h 1= .box l):(z1b std E34.T env h (.store 64 (.tmp a) (.tmp c))).ok false [] []:=by
 simp only [z1b,z0n,ha,z24,hh,y3h.ok]
theorem y1s {h:List AO} {k:Nat} (hk:h.length=k) (o:AO):(z0o h k o).length=k+1:=by subst hk; exact z1c _ _
def mkJ (J:Int) (i:Int):List (Nat×AV):=[(1, .bptr 0 0),(5, .bptr 1 0),(17, .d (.int .i64 J)),(18, .d (.int .i64 i))]
set_option maxHeartbeats 4000000 in
theorem w5x {h:List AO} {N J S:Int} {V:List (List D)} {n:Nat} {f:Nat→JM×JM} (hf:x97 h N J S V n f) (hn:n≤1000) (hfn:f n=([],[])) {i:Int}
  {Q:AS→Prop} (hQ:∀ h',x97 h' N J S V (n+1) f→Q ⟨mkJ J i,h',55⟩):z4v P34 0 (z6j y80) (List.range (z6j y80).size) ⟨mkJ J i,h,55⟩ (fun s=>∃ s',z2a 0 s s'∧Q s'):=by
 have hr:List.range (z6j y80).size=[0,1,2,3,4,5,6,7,8,9,10,11,12]:=by kernel_rfl
 obtain ⟨w0,o0⟩:=z3x (p:=y80) (i:=0) (dst:=some 20) (op:= .move (.tmp 5)) (by kernel_rfl)
 obtain ⟨w1,o1⟩:=z3x (p:=y80) (i:=1) (dst:=some 21) (op:= .move (.tmp 5)) (by kernel_rfl)
 obtain ⟨w2,o2⟩:=z3x (p:=y80) (i:=2) (dst:=some 22) (op:= .nilCheck (.tmp 21)) (by kernel_rfl)
 obtain ⟨w3,o3⟩:=z3x (p:=y80) (i:=3) (dst:=some 23) (op:= .fieldAddr 66 (.tmp 22) 1) (by kernel_rfl)
 obtain ⟨w4,o4⟩:=z3x (p:=y80) (i:=4) (dst:=some 24) (op:= .load 64 (.tmp 23)) (by kernel_rfl)
 obtain ⟨w5,o5⟩:=z3x (p:=y80) (i:=5) (dst:=some 25) (op:= .makeMap 67 none) (by kernel_rfl)
 obtain ⟨w6,o6⟩:=z3x (p:=y80) (i:=6) (dst:=some 26) (op:= .makeMap 67 none) (by kernel_rfl)
 obtain ⟨w7,o7⟩:=z3x (p:=y80) (i:=7) (dst:=some 27) (op:= .build 69 #[(0, .tmp 25),(1, .tmp 26)]) (by kernel_rfl)
 obtain ⟨w8,o8⟩:=z3x (p:=y80) (i:=8) (dst:=some 28) (op:= .buildSlice 64 1 #[(0, .tmp 27)]) (by kernel_rfl)
 obtain ⟨w9,o9⟩:=z3x (p:=y80) (i:=9) (dst:=some 29) (op:= .call ⟨.builtin .append,#[.tmp 24, .tmp 28],#[64,64]⟩) (by kernel_rfl)
 obtain ⟨w10,o10⟩:=z3x (p:=y80) (i:=10) (dst:=some 30) (op:= .nilCheck (.tmp 20)) (by kernel_rfl)
 obtain ⟨w11,o11⟩:=z3x (p:=y80) (i:=11) (dst:=some 31) (op:= .fieldAddr 66 (.tmp 30) 1) (by kernel_rfl)
 obtain ⟨w12,o12⟩:=z3x (p:=y80) (i:=12) (dst:=none) (op:= .store 64 (.tmp 31) (.tmp 29)) (by kernel_rfl)
 have hl:=hf.len
 rw [hr]
 refine z3w o0 (q:=false) (r:=[]) (ra:=[]) (res:=⟨true, .bptr 1 0,[]⟩) trivial rfl rfl rfl ?_
 refine z3w o1 (q:=false) (r:=[]) (ra:=[]) (res:=⟨true, .bptr 1 0,[]⟩) trivial rfl rfl rfl ?_
 refine z3w o2 (q:=false) (r:=[]) (ra:=[]) (res:=⟨true, .bptr 1 0,[]⟩) trivial rfl rfl rfl ?_
 refine z3w o3 (q:=false) (r:=[]) (ra:=[]) (res:=⟨true, .bptr 1 4,[]⟩) trivial (by kernel_rfl) rfl rfl ?_
 have hsl:z3z false [slJ n]=some (slJ n):=by unfold slJ; split<;>rfl
 refine z3w o4 (q:=false) (r:=[]) (ra:=[]) (res:=⟨true,slJ n,[]⟩) (y5w rfl hf.b1) (w32 rfl hf.b1 hsl) rfl rfl ?_
 show z4v P34 0 _ [5,6,7,8,9,10,11,12] ⟨_,h,55⟩ _
 refine z3w o5 (q:=false) (r:=[]) (ra:=[]) (res:=⟨true, .map (2+4*n),[(2+4*n, .map [])]⟩) trivial (by rw [x7y,hl]) rfl rfl ?_
 show z4v P34 0 _ [6,7,8,9,10,11,12] ⟨_,z0o h (2+4*n) (.map []),55⟩ _
 have l1:=y1s hl (.map [])
 have a1:z0e (z0o h (2+4*n) (.map [])) (2+4*n)= .map []:=z0b _ _ _
 have c1:∀ j,j<2+4*n→z0e (z0o h (2+4*n) (.map [])) j=z0e h j:=fun j hj=>z0a _ _ _ _ (by omega)
 generalize z0o h (2+4*n) (.map [])=H1 at l1 a1 c1⊢
 refine z3w o6 (q:=false) (r:=[]) (ra:=[]) (res:=⟨true, .map (3+4*n),[(3+4*n, .map [])]⟩) trivial (by rw [x7y,l1,show 2+4*n+1=3+4*n by omega]) rfl rfl ?_
 show z4v P34 0 _ [7,8,9,10,11,12] ⟨_,z0o H1 (3+4*n) (.map []),55⟩ _
 have l2:=y1s (k:=3+4*n) (by omega) (.map []) (h:=H1)
 have a2:z0e (z0o H1 (3+4*n) (.map [])) (3+4*n)= .map []:=z0b _ _ _
 have c2':∀ j,j<3+4*n→z0e (z0o H1 (3+4*n) (.map [])) j=z0e H1 j:=fun j hj=>z0a _ _ _ _ (by omega)
 generalize z0o H1 (3+4*n) (.map [])=H2 at l2 a2 c2'⊢
 refine z3w o7 (q:=false) (r:=[]) (ra:=[]) (res:=⟨true, .agg [.map (2+4*n), .map (3+4*n)],[]⟩) trivial (w78 rfl rfl) rfl rfl ?_
 show z4v P34 0 _ [8,9,10,11,12] ⟨_,H2,55⟩ _
 refine z3w o8 (q:=false) (r:=[]) (ra:=[]) (res:=⟨true, .slice (4+4*n) 2 0 1 (some 1),[(4+4*n, .arow [[.map (2+4*n), .map (3+4*n)]])]⟩) trivial (by
  refine (v5x rfl).trans ?_
  rw [show H2.length=4+4*n by omega]) rfl rfl ?_
 show z4v P34 0 _ [9,10,11,12] ⟨_,z0o H2 (4+4*n) (.arow [[.map (2+4*n), .map (3+4*n)]]),55⟩ _
 have l3:=y1s (k:=4+4*n) (by omega) (.arow [[.map (2+4*n), .map (3+4*n)]]) (h:=H2)
 have a3:z0e (z0o H2 (4+4*n) (.arow [[.map (2+4*n), .map (3+4*n)]])) (4+4*n)= .arow [[.map (2+4*n), .map (3+4*n)]]:=z0b _ _ _
 have c3':∀ j,j<4+4*n→z0e (z0o H2 (4+4*n) (.arow [[.map (2+4*n), .map (3+4*n)]])) j=z0e H2 j:=fun j hj=>z0a _ _ _ _ (by omega)
 generalize z0o H2 (4+4*n) (.arow [[.map (2+4*n), .map (3+4*n)]])=H3 at l3 a3 c3'⊢
 have b3:z0e H3 1= .box (bkC N J S V++[slJ n]):=by rw [c3' 1 (by omega),c2' 1 (by omega),c1 1 (by omega)]; exact hf.b1
 have more:∀ H4:List AO,H4.length=6+4*n→z0e H4 (5+4*n)= .arow (z56 (n+1))→(∀ j,j<5+4*n→j≠4*n+1∨n=0→z0e H4 j=z0e H3 j)→∀ env,
   z0r env 20= .bptr 1 0→z0r env 29= .slice (4*(n+1)+1) 2 0 (n+1) none→y23 (mkJ J i) (z4w (z4w env 30 (.bptr 1 0)) 31 (.bptr 1 4))→z4v P34 0 (z6j y80) [10,11,12] ⟨env,H4,55⟩ (fun s=>∃ s',z2a 0 s s'∧Q s'):=by
  intro H4 l4 a4 c4' env g20 g29 hle
  have c4:∀ j,j<5+4*n→j≠4*n+1∨n=0→z0e H4 j=z0e H3 j:=c4'
  have b4:z0e H4 1= .box (bkC N J S V++[slJ n]):=by rw [c4 1 (by omega) (by omega)]; exact b3
  refine z3w o10 (q:=false) (r:=[]) (ra:=[]) (res:=⟨true, .bptr 1 0,[]⟩) trivial (by simp only [z0j,z0n,g20]; rfl) rfl rfl ?_
  show z4v P34 0 _ [11,12] ⟨z4w env 30 (.bptr 1 0),H4,55⟩ _
  refine z3w o11 (q:=false) (r:=[]) (ra:=[]) (res:=⟨true, .bptr 1 4,[]⟩) trivial (by
   have:z0r (z4w env 30 (.bptr 1 0)) 30= .bptr 1 0:=z0v _ _ _
   simp only [z0j,ty66,z0n,this]
   rfl) rfl rfl ?_
  show z4v P34 0 _ [12] ⟨z4w (z4w env 30 (.bptr 1 0)) 31 (.bptr 1 4),H4,55⟩ _
  have g31:z0r (z4w (z4w env 30 (.bptr 1 0)) 31 (.bptr 1 4)) 31= .bptr 1 4:=z0v _ _ _
  have g29':z0r (z4w (z4w env 30 (.bptr 1 0)) 31 (.bptr 1 4)) 29= .slice (4*(n+1)+1) 2 0 (n+1) none:=by
   rw [z0l _ _ _ _ (by decide),z0l _ _ _ _ (by decide)]; exact g29
  refine z3w o12 (q:=false) (r:=[]) (ra:=[]) (res:=⟨true, .bot,[(1, .box (bkC N J S V++[.slice (4*(n+1)+1) 2 0 (n+1) none]))]⟩) (x1b g31 b4) (w5f g31 g29' b4) rfl rfl ?_
  refine z1w ?_
  refine ⟨⟨mkJ J i,z0o H4 1 (.box (bkC N J S V++[.slice (4*(n+1)+1) 2 0 (n+1) none])),55⟩,?_,hQ _ ?_⟩
  ·exact z2a.env (n:=0) (s:=⟨_,z0o H4 1 (.box (bkC N J S V++[.slice (4*(n+1)+1) 2 0 (n+1) none])),55⟩) hle
  ·have l5:(z0o H4 1 (.box (bkC N J S V++[.slice (4*(n+1)+1) 2 0 (n+1) none]))).length=6+4*n:=by rw [z0q _ _ _ (by omega)]; exact l4
   have c5:∀ j,j≠1→z0e (z0o H4 1 (.box (bkC N J S V++[.slice (4*(n+1)+1) 2 0 (n+1) none]))) j=z0e H4 j:=fun j hj=>z0a _ _ _ _ (by omega)
   refine hf.more (by omega) ?_ ?_ ?_ ?_ ?_ ?_ hfn
   ·rw [c5 0 (by omega),c4 0 (by omega) (by omega),c3' 0 (by omega),c2' 0 (by omega),c1 0 (by omega)]
   ·rw [z0b]; unfold slJ; rw [if_neg (by omega)]
   ·rw [c5 _ (by omega),show 4*n+5=5+4*n by omega,a4]
   ·rw [c5 _ (by omega),c4 _ (by omega) (by omega),c3' _ (by omega),c2' _ (by omega),a1]
   ·rw [c5 _ (by omega),c4 _ (by omega) (by omega),c3' _ (by omega),a2]
   ·intro i hi
    refine ⟨?_,?_⟩
    ·rw [c5 _ (by omega),c4 _ (by omega) (by omega),c3' _ (by omega),c2' _ (by omega),c1 _ (by omega)]
    ·rw [c5 _ (by omega),c4 _ (by omega) (by omega),c3' _ (by omega),c2' _ (by omega),c1 _ (by omega)]
 have envOk:∀ env:List (Nat×AV),z0r env 1= .bptr 0 0→z0r env 5= .bptr 1 0→z0r env 17= .d (.int .i64 J)→z0r env 18= .d (.int .i64 i)→y23 (mkJ J i) (z4w (z4w env 30 (.bptr 1 0)) 31 (.bptr 1 4)):=by
  intro env g1 g5 g17 g18
  refine z06 fun x hx=>?_
  simp only [mkJ,List.mem_cons,List.not_mem_nil,or_false] at hx
  rcases hx with rfl|rfl|rfl|rfl
  ·show z0r (z4w (z4w env 30 _) 31 _) 1=_
   rw [z0l _ 31 1 _ (by decide),z0l _ 30 1 _ (by decide)]; exact g1
  ·show z0r (z4w (z4w env 30 _) 31 _) 5=_
   rw [z0l _ 31 5 _ (by decide),z0l _ 30 5 _ (by decide)]; exact g5
  ·show z0r (z4w (z4w env 30 _) 31 _) 17=_
   rw [z0l _ 31 17 _ (by decide),z0l _ 30 17 _ (by decide)]; exact g17
  ·show z0r (z4w (z4w env 30 _) 31 _) 18=_
   rw [z0l _ 31 18 _ (by decide),z0l _ 30 18 _ (by decide)]; exact g18
 rcases Nat.eq_zero_or_pos n with hz|hz
 ·have hs:slJ n= .d (.list true 0 []):=by unfold slJ; rw [if_pos hz]
  rw [hs]
  refine z3w o9 (q:=true) (r:=[]) (ra:=[]) (res:=⟨true, .slice (4*(n+1)+1) 2 0 (n+1) none,[(5+4*n, .arow [[.map (2+4*n), .map (3+4*n)]])]⟩) (x6k rfl) (by
   refine (w3i rfl rfl a3).trans ?_
   rw [show H3.length=5+4*n by omega,show 4*(n+1)+1=5+4*n by omega,show n+1=1 by omega]) rfl rfl ?_
  have l4:=y1s (k:=5+4*n) (by omega) (.arow [[.map (2+4*n), .map (3+4*n)]]) (h:=H3)
  refine more (z0o H3 (5+4*n) (.arow [[.map (2+4*n), .map (3+4*n)]])) (by omega) (by rw [z0b,y57,hz]; rfl) (fun j hj _=>z0a _ _ _ _ (by omega)) _ ?_ ?_ (envOk _ ?_ ?_ ?_ ?_)<;>rfl
 ·have hs:slJ n= .slice (4*n+1) 2 0 n none:=by unfold slJ; rw [if_neg (by omega)]
  rw [hs]
  have harr:z0e H3 (4*n+1)= .arow (z56 n):=by rw [c3' _ (by omega),c2' _ (by omega),c1 _ (by omega)]; exact hf.arr hz
  refine z3w o9 (q:=false) (r:=[]) (ra:=[]) (res:=⟨true, .slice (4*(n+1)+1) 2 0 (n+1) none,[(4*n+1, .dead),(5+4*n, .arow (z56 n++[[.map (2+4*n), .map (3+4*n)]]))]⟩) (x6j rfl) (by
   refine (w3h rfl rfl a3 harr (x7c n) hn).trans ?_
   rw [show H3.length=5+4*n by omega,show 4*(n+1)+1=5+4*n by omega]) rfl rfl ?_
  have lk:(z0o H3 (4*n+1) .dead).length=5+4*n:=by rw [z0q _ _ _ (by omega)]; omega
  have l4:=y1s lk (.arow (z56 n++[[.map (2+4*n), .map (3+4*n)]]))
  refine more (z0o (z0o H3 (4*n+1) .dead) (5+4*n) (.arow (z56 n++[[.map (2+4*n), .map (3+4*n)]]))) (by omega) (by rw [z0b,y57]) (fun j hj hne=>by
   rw [z0a _ _ _ _ (by omega),z0a _ _ _ _ (by omega)]) _ ?_ ?_ (envOk _ ?_ ?_ ?_ ?_)<;>rfl
noncomputable abbrev y9v (pos:List Bool) (env:List (Nat×AV)) (h:List AO):Option (AX×SS):=sym opt std E34 (w1g opt) 20 (AX×SS) 0 46 pos (z9s pos) ⟨⟨env,h,55⟩,[]⟩ fun e s=>some (e,s)
theorem y7x {c:Code} {pos:List Bool} {ss:SS} {e:AX} {ss':SS} (hcd:z07 P34 46 pos=some c) (h:sym opt std E34 (w1g opt) 20 (AX×SS) 0 46 pos c ss (fun e s=>some (e,s))=some (e,ss')):
  z2u P34 0 c ss.s (fun e' s2=>e'=e∧s2=ss'.s):=by
 obtain ⟨e0,s0,_,hc,hk⟩:=y5y w8u y4c 20 (AX×SS) 0 46 pos c ss _ _ hcd (Nat.zero_le _) h
 cases hk; exact hc
theorem sB46:z9s x50= .seq (z9s (false::x50)) (.seq (.cond (.tmp 19) .skip (.exit 0)) (.seq (.block 1 (.region 7 (z6j y80) false)) (z9s ([true,true,true]++x50)))):=by kernel_rfl
theorem v8j:z07 P34 46 (false::x50)=some (z9s (false::x50)):=by kernel_rfl
theorem v8i:z07 P34 46 ([true,true,true]++x50)=some (z9s ([true,true,true]++x50)):=by kernel_rfl
theorem v76 (J i:Int) (h:List AO):y9v (false::x50) (mkJ J i) h=some (.normal,⟨⟨mkJ J i++[(19, .d (.bool (std.cmp .lss i J)))],h,55⟩,[]⟩):=by kernel_rfl
theorem v75 (J i:Int) (h:List AO):y9v ([true,true,true]++x50) (mkJ J i) h=some (.normal,⟨⟨mkJ J (std.ar .add .i64 i 1)++[(32, .d (.int .i64 (std.ar .add .i64 i 1)))],h,55⟩,[]⟩):=by kernel_rfl
theorem w3z (J i:Int) (r:List (Nat×AV)):y23 (mkJ J i) (mkJ J i++r):=by
 refine z06 fun x hx=>?_
 simp only [mkJ,List.mem_cons,List.not_mem_nil,or_false] at hx
 rcases hx with rfl|rfl|rfl|rfl<;>rfl
theorem w9y {h:List AO} {N S:Int} {V:List (List D)} {M:Nat} {f:Nat→JM×JM} (hf:x97 h N M S V 0 f) (hM:M≤1000) (hfn:∀ i,f i=([],[])) {Q:AX→AS→Prop}
  (hQ:∀ h',x97 h' N M S V M f→Q (.exit 0) ⟨mkJ (M:Int) (M:Int)++[(19, .d (.bool (std.cmp .lss (M:Int) (M:Int))))],h',55⟩):z2u P34 0 (.loop (z9s x50)) ⟨mkJ (M:Int) ((0:Nat):Int),h,55⟩ Q:=by
 let ι:={ x:Nat×List AO // x.1≤M∧x97 x.2 N M S V x.1 f }
 let I:ι→AS:=fun g=>⟨mkJ (M:Int) (g.1.1:Nat),g.1.2,55⟩
 refine z7v (ι:=ι) I (fun g=>M - g.1.1) (fun _ _=>rfl) ?_ ⟨(0,h),Nat.zero_le _,hf⟩
 rintro ⟨⟨n,h1⟩,hn,hf1⟩
 rw [sB46]
 refine z0h ?_
 refine (y7x v8j (v76 (M:Int) (n:Int) h1)).mono ?_
 rintro e s ⟨rfl,rfl⟩
 refine z0h ?_
 by_cases hlt:n<M
 ·have hc:std.cmp .lss (n:Int) (M:Int)=true:=by rw [z4k]; exact decide_eq_true (by omega)
  refine z1x (t:=true) (by show AV.d (.bool (std.cmp .lss (n:Int) (M:Int)))=_; rw [hc]) ?_
  rw [if_pos rfl]
  refine z4r ?_
  refine z09 (s':=⟨mkJ (M:Int) (n:Int),h1,55⟩) (z2a.env (n:=0) (s:=⟨_,h1,55⟩) (w3z _ _ _)) ?_
  refine z0h (z1h (z0t (z00 ?_)))
  refine w5x hf1 (by omega) (hfn n) (i:=(n:Int)) (Q:=fun s'=>z2u P34 0 (z9s ([true,true,true]++x50)) s' _) fun h' hf'=>?_
  refine z0t ((y7x v8i (v75 (M:Int) (n:Int) h')).mono ?_)
  rintro e s ⟨rfl,rfl⟩
  rw [w8k (i:=n) (by omega)]
  exact ⟨⟨mkJ (M:Int) ((n+1:Nat):Int),h',55⟩,z2a.env (n:=0) (s:=⟨_,h',55⟩) (w3z _ _ _),⟨⟨(n+1,h'),hlt,hf'⟩,rfl,by show M - (n+1)<M - n; omega⟩⟩
 ·have hnM:n=M:=by omega
  subst hnM
  have hc:std.cmp .lss (n:Int) (n:Int)=false:=by rw [z4k]; exact decide_eq_false (by omega)
  refine z1x (t:=false) (by show AV.d (.bool (std.cmp .lss (n:Int) (n:Int)))=_; rw [hc]) ?_
  rw [if_neg (by simp)]
  exact z6e (hQ h1 hf1)
end Go.Am
end
section
namespace Go.Am
def y2w (V:List (List D)) (m i:Int):List (Nat×AV):=[(1, .bptr 0 0),(5, .bptr 1 0),(34, .d (.list false 3 V)),(35, .d (.int .i64 m)),(36, .d (.int .i64 i))]
def v9v:TI:=⟨1,24,false,[.list true 0 []], .slc 57 3 24 true [.int .i64 0, .int .i64 0, .int .i64 0],none⟩
theorem v9u:E34.T 22=some v9v:=by kernel_rfl
theorem v6t {env:List (Nat×AV)} {h:List AO} {new a b:Nat} {V:List (List D)} {i:Int} {r0 r1 r2:D} (ha:z0r env a= .d (.list false 3 V)) (hb:z0r env b= .d (.int .i64 i)):
  z0j std E34.T env h new false [r0,r1,r2] [] (.indexAddr 22 (.tmp a) (.tmp b))=some ⟨std.cmp .geq i 0, .lptr [r0,r1,r2] 0,[]⟩:=by
 simp only [z0j,z0n,ha,hb,v9u]
 rfl
theorem z7g (r:List D):x2n r r:=by
 first|exact fun i d h=>h|exact fun i=> .inl rfl|exact x2n.refl r|exact fun _ _ _=>rfl
theorem x6m {env:List (Nat×AV)} {h:List AO} {a b:Nat} {V:List (List D)} {i:Nat} {r:List D} (ha:z0r env a= .d (.list false 3 V)) (hb:z0r env b= .d (.int .i64 (i:Int))) (hv:V[i]?=some r):
  (z1b std E34.T env h (.indexAddr 22 (.tmp a) (.tmp b))).ok false r []:=by
 simp only [z1b,z0n,ha,hb]
 simp only [x6n,y3h.ok]
 exact ⟨r,hv,z7g r⟩
theorem w8n:(E34.T 57).map (fun t=>(t.size,t.agg,t.zero))=some (3,true,[.int .i64 0, .int .i64 0, .int .i64 0]):=by kernel_rfl
theorem ld57 {env:List (Nat×AV)} {h:List AO} {new a:Nat} {r0 r1 r2:D} (ha:z0r env a= .lptr [r0,r1,r2] 0):
  z0j std E34.T env h new false [] [] (.load 57 (.tmp a))=some ⟨true, .d (.agg [r0,r1,r2]),[]⟩:=by
 cases ht:E34.T 57 with
 |none=>have:=w8n; rw [ht] at this; cases this
 |some ti=>
  have h1:=w8n
  rw [ht] at h1
  simp only [Option.map_some,Option.some.injEq,Prod.mk.injEq] at h1
  simp only [z0j,z0n,ha,ht,z5n,z1n,h1.1,h1.2.1]
  rfl
theorem w8g {env:List (Nat×AV)} {h:List AO} {new:Nat}:z0j std E34.T env h new false [] [] (.alloc 57)=some ⟨true, .bptr new 0,[(new, .box [.d (.int .i64 0), .d (.int .i64 0), .d (.int .i64 0)])]⟩:=by
 cases ht:E34.T 57 with
 |none=>have:=w8n; rw [ht] at this; cases this
 |some ti=>
  have h1:=w8n
  rw [ht] at h1
  simp only [Option.map_some,Option.some.injEq,Prod.mk.injEq] at h1
  have e:z0j std E34.T env h new false [] [] (.alloc 57)=z7a std ti new:=by simp only [z0j,ht]
  rw [e]
  obtain ⟨s,b,a,z,d,q⟩:=ti
  simp only at h1
  obtain ⟨rfl,rfl,rfl⟩:=h1
  rfl
theorem w5e {env:List (Nat×AV)} {h:List AO} {new a c id:Nat} {r0 r1 r2:Int} (ha:z0r env a= .bptr id 0) (hc:z0r env c= .d (.agg [.int .i64 r0, .int .i64 r1, .int .i64 r2])) (hh:z0e h id= .box [.d (.int .i64 0), .d (.int .i64 0), .d (.int .i64 0)]):
  z0j std E34.T env h new false [] [] (.store 57 (.tmp a) (.tmp c))=some ⟨true, .bot,[(id, .box [.d (.int .i64 r0), .d (.int .i64 r1), .d (.int .i64 r2)])]⟩:=by
 cases ht:E34.T 57 with
 |none=>have:=w8n; rw [ht] at this; cases this
 |some ti=>
  have h1:=w8n
  rw [ht] at h1
  simp only [Option.map_some,Option.some.injEq,Prod.mk.injEq] at h1
  obtain ⟨s,b,a',z,d,q⟩:=ti
  simp only at h1
  obtain ⟨rfl,rfl,rfl⟩:=h1
  simp only [z0j,ht,z0n,ha,hc,z2e,z1y,z1m,hh]
  rfl
theorem w0g {env:List (Nat×AV)} {h:List AO} {a c id:Nat} {l:List AV} (ha:z0r env a= .bptr id 0) (hh:z0e h id= .box l):(z1b std E34.T env h (.store 57 (.tmp a) (.tmp c))).ok false [] []:=by
 simp only [z1b,z0n,ha,z24,hh,y3h.ok]
def x2i:List Bool:=[false,false,true,false,true,true,true,true]
def y91:List Bool:=[false,false,false,true,true]++x2i
theorem w09 {h:List AO} {l:List Vt} {m:Int} {t L:Nat} {v:Vt} (hv:l[t]?=some v) (hL:h.length=L)
  {Q:AS→Prop} (hQ:∀ h',h'.length=L+1→z0e h' L= .box [.d (.int .i64 v.1), .d (.int .i64 v.2.1), .d (.int .i64 v.2.2)]→(∀ j,j<L→z0e h' j=z0e h j)→Q ⟨(7, .bptr L 0)::y2w (z0g l) m (t:Int),h',55⟩):
  z4v P34 0 (z6j y91) (List.range (z6j y91).size) ⟨y2w (z0g l) m (t:Int),h,55⟩ (fun s=>∃ s',z2a 0 s s'∧Q s'):=by
 have hr:List.range (z6j y91).size=[0,1,2,3]:=by kernel_rfl
 obtain ⟨w0,o0⟩:=z3x (p:=y91) (i:=0) (dst:=some 38) (op:= .indexAddr 22 (.tmp 34) (.tmp 36)) (by kernel_rfl)
 obtain ⟨w1,o1⟩:=z3x (p:=y91) (i:=1) (dst:=some 39) (op:= .load 57 (.tmp 38)) (by kernel_rfl)
 obtain ⟨w2,o2⟩:=z3x (p:=y91) (i:=2) (dst:=some 7) (op:= .alloc 57) (by kernel_rfl)
 obtain ⟨w3,o3⟩:=z3x (p:=y91) (i:=3) (dst:=none) (op:= .store 57 (.tmp 7) (.tmp 39)) (by kernel_rfl)
 rw [hr]
 have hc:std.cmp .geq (t:Int) 0=true:=by rw [y3y]; exact decide_eq_true (by omega)
 refine z3w o0 (q:=false) (r:=eVt v) (ra:=[]) (res:=⟨std.cmp .geq (t:Int) 0, .lptr (eVt v) 0,[]⟩) (x6m rfl rfl (z9j hv)) (v6t rfl rfl) hc rfl ?_
 show z4v P34 0 _ [1,2,3] ⟨_,h,55⟩ _
 refine z3w o1 (q:=false) (r:=[]) (ra:=[]) (res:=⟨true, .d (.agg (eVt v)),[]⟩) trivial (ld57 rfl) rfl rfl ?_
 show z4v P34 0 _ [2,3] ⟨_,h,55⟩ _
 refine z3w o2 (q:=false) (r:=[]) (ra:=[]) (res:=⟨true, .bptr L 0,[(L, .box [.d (.int .i64 0), .d (.int .i64 0), .d (.int .i64 0)])]⟩) trivial (by rw [w8g,hL]) rfl rfl ?_
 show z4v P34 0 _ [3] ⟨_,z0o h L (.box [.d (.int .i64 0), .d (.int .i64 0), .d (.int .i64 0)]),55⟩ _
 have l1:=y1s hL (.box [.d (.int .i64 0), .d (.int .i64 0), .d (.int .i64 0)])
 have a1:z0e (z0o h L (.box [.d (.int .i64 0), .d (.int .i64 0), .d (.int .i64 0)])) L= .box [.d (.int .i64 0), .d (.int .i64 0), .d (.int .i64 0)]:=z0b _ _ _
 have c1:∀ j,j<L→z0e (z0o h L (.box [.d (.int .i64 0), .d (.int .i64 0), .d (.int .i64 0)])) j=z0e h j:=fun j hj=>z0a _ _ _ _ (by omega)
 generalize z0o h L (.box [.d (.int .i64 0), .d (.int .i64 0), .d (.int .i64 0)])=H1 at l1 a1 c1⊢
 refine z3w o3 (q:=false) (r:=[]) (ra:=[]) (res:=⟨true, .bot,[(L, .box [.d (.int .i64 v.1), .d (.int .i64 v.2.1), .d (.int .i64 v.2.2)])]⟩) (w0g rfl a1) (w5e rfl rfl a1) rfl rfl ?_
 refine z1w ?_
 refine ⟨⟨(7, .bptr L 0)::y2w (z0g l) m (t:Int),z0o H1 L (.box [.d (.int .i64 v.1), .d (.int .i64 v.2.1), .d (.int .i64 v.2.2)]),55⟩,?_,hQ _ ?_ ?_ ?_⟩
 ·exact z2a.env (n:=0) (s:=⟨_,z0o H1 L (.box [.d (.int .i64 v.1), .d (.int .i64 v.2.1), .d (.int .i64 v.2.2)]),55⟩) (z06 fun x hx=>by
   simp only [y2w,List.mem_cons,List.not_mem_nil,or_false] at hx
   rcases hx with rfl|rfl|rfl|rfl|rfl|rfl<;>rfl)
 ·rw [z0q _ _ _ (by omega)]; exact l1
 ·exact z0b _ _ _
 ·intro j hj
  rw [z0a _ _ _ _ (by omega)]; exact c1 j hj
end Go.Am
end
section
namespace Go.Am
theorem z6f {a b:Nat} (h:a≠b):Nat.beq a b=false:=by
 cases hb:Nat.beq a b with
 |false=>rfl
 |true=>exact absurd (Nat.eq_of_beq_eq_true hb) h
theorem v2c {n:Nat} {env:List (Nat×AV)} {h:List AO} {nt a b:Nat} {m:JM×JM} (hn:n≤h.length) (ha:z0e h a= .map (EJ.enc m.1)) (hb:z0e h b= .map (EJ.enc m.2)) (hla:a<h.length) (hlb:b<h.length) (hab:a≠b) (x y:Int):
  z4f P34 n 76 [.agg [.map a, .map b], .d (.int .i64 x), .d (.int .i64 y)] ⟨env,h,nt⟩ (.tuple []) ⟨env,z0o (z0o h a (.map (EJ.enc (y0h m x y).1))) b (.map (EJ.enc (y0h m x y).2)),nt⟩:=by
 obtain ⟨hl,har⟩:=ok76.2 (EJ.enc m.1,EJ.enc m.2,x,y,()) _ (v3h m x y)
 have hinj:x5l [some a,some b]=true:=by
  simp only [x5l,y0c,z6f hab,z6f hab.symm,Bool.or_false,Bool.not_false,Bool.and_self]
 have hth:z5c h.length [some a,some b]=true:=by
  simp only [z5c,Bool.and_true,Bool.and_eq_true]
  exact ⟨Nat.ble_eq_true_of_le hla,Nat.ble_eq_true_of_le hlb⟩
 have:=z9g (P:=P34) (n:=n) (s:=⟨env,h,nt⟩) (σ:=[some a,some b]) hn hinj hth (g:=76) (args:=[.agg [.map a, .map b], .d (.int .i64 x), .d (.int .i64 y)]) hl (fun ρ w hr=>?_) har
 ·exact this
 ·refine ⟨⟨.inr (.inr (.inl ⟨_,rfl,ha⟩)), .inr (.inr (.inl ⟨_,rfl,hb⟩)),trivial⟩,rfl,fun f hf i y hy=>?_⟩
  match i,hy with
  |0,hy=>
   cases hy
   have h0:=hf 0 _ rfl
   generalize f 0=v at h0
   cases h0 with
   |agg _ vs hl hv=>
    refine .agg _ vs hl fun i z hz=>?_
    match i,hz with
    |0,hz=>
     cases hz
     have h1:=hv 0 _ rfl
     generalize vs.getD 0 undef=u at h1⊢
     cases h1 with
     |map _ L hL=>exact .map 0 L hL
    |1,hz=>
     cases hz
     have h1:=hv 1 _ rfl
     generalize vs.getD 1 undef=u at h1⊢
     cases h1 with
     |map _ L hL=>exact .map 1 L hL
    |_+2,hz=>cases hz
  |1,hy=>cases hy; have h1:=hf 1 _ rfl; generalize f 1=v at h1⊢; cases h1 with|d hd=>exact .d hd
  |2,hy=>cases hy; have h1:=hf 2 _ rfl; generalize f 2=v at h1⊢; cases h1 with|d hd=>exact .d hd
  |_+3,hy=>cases hy
end Go.Am
end
section
namespace Go.Am
def z8g:List Bool:=[true,false,false,true,true]++x2i
structure x2o (h:List AO) (N J S:Int) (V:List (List D)) (n:Nat) (f:Nat→JM×JM):Prop where
 len:2+4*n≤h.length
 b0:z0e h 0= .box (bkC N J S V)
 b1:z0e h 1= .box (bkC N J S V++[slJ n])
 arr:0<n→z0e h (4*n+1)= .arow (z56 n)
 said:∀ i,i<n→z0e h (2+4*i)= .map (EJ.enc (f i).1)
 slip:∀ i,i<n→z0e h (3+4*i)= .map (EJ.enc (f i).2)
theorem x97.to7 {h:List AO} {N J S:Int} {V:List (List D)} {n:Nat} {f:Nat→JM×JM} (hf:x97 h N J S V n f):x2o h N J S V n f:=
 ⟨Nat.le_of_eq hf.len.symm,hf.b0,hf.b1,hf.arr,hf.said,hf.slip⟩
theorem x2o.keep {h h':List AO} {N J S:Int} {V:List (List D)} {n:Nat} {f:Nat→JM×JM} (hf:x2o h N J S V n f) (hl:h.length≤h'.length) (hk:∀ j,j<h.length→z0e h' j=z0e h j):x2o h' N J S V n f:=by
 have hh:=hf.len
 refine ⟨by omega,?_,?_,fun hn=>?_,fun i hi=>?_,fun i hi=>?_⟩
 ·rw [hk 0 (by omega)]; exact hf.b0
 ·rw [hk 1 (by omega)]; exact hf.b1
 ·rw [hk _ (by omega)]; exact hf.arr hn
 ·rw [hk _ (by omega)]; exact hf.said i hi
 ·rw [hk _ (by omega)]; exact hf.slip i hi
def w8l (f:Nat→JM×JM) (j:Nat) (m:JM×JM):Nat→JM×JM:=fun i=>if i=j then m else f i
theorem x2o.put {h:List AO} {N J S:Int} {V:List (List D)} {n:Nat} {f:Nat→JM×JM} (hf:x2o h N J S V n f) {j:Nat} (hj:j<n) (m:JM×JM):
  x2o (z0o (z0o h (2+4*j) (.map (EJ.enc m.1))) (3+4*j) (.map (EJ.enc m.2))) N J S V n (w8l f j m):=by
 have hh:=hf.len
 have key:∀ i,i≠2+4*j→i≠3+4*j→z0e (z0o (z0o h (2+4*j) (.map (EJ.enc m.1))) (3+4*j) (.map (EJ.enc m.2))) i=z0e h i:=fun i h1 h2=>by
  rw [z0a _ _ _ _ (Ne.symm h2),z0a _ _ _ _ (Ne.symm h1)]
 refine ⟨?_,?_,?_,fun hn=>?_,fun i hi=>?_,fun i hi=>?_⟩
 ·rw [z0q _ _ _ (by rw [z0q _ _ _ (by omega)]; omega),z0q _ _ _ (by omega)]; exact hh
 ·rw [key 0 (by omega) (by omega)]; exact hf.b0
 ·rw [key 1 (by omega) (by omega)]; exact hf.b1
 ·rw [key _ (by omega) (by omega)]; exact hf.arr hn
 ·unfold w8l
  by_cases e:i=j
  ·subst e
   rw [if_pos rfl,z0a _ _ _ _ (by omega),z0b]
  ·rw [if_neg e,key _ (by omega) (by omega)]; exact hf.said i hi
 ·unfold w8l
  by_cases e:i=j
  ·subst e
   rw [if_pos rfl,z0b]
  ·rw [if_neg e,key _ (by omega) (by omega)]; exact hf.slip i hi
noncomputable def y2v (p:List Bool) (i:Nat):Oper:=((z6j p).toList[i]?).getD default
theorem z8j {ops:List Oper} {nt base:Nat} {K:AS→Prop} {acc:List (List Nat)} {i:Nat} {o:Oper} {rest:List Oper} {s:AS} {dst:Option Tmp} {op:Op} (ho:o.dst=dst∧o.op=op∧o.guard=none) {q:Bool} {r:List D} {ra:List AV} {res:Res}
  (hp:y90 ops acc i o (z68 s.env o.op)=true) (hw:(z1b std E34.T s.env s.heap op).ok q r ra) (hs:z0j std E34.T s.env s.heap (base+i) q r ra op=some res) (hc:res.c=true) (hd:z4x nt dst=true) (ht:∀ id∈z68 s.env op,id<base)
  (h:DS P34 E34.T ops nt base K (acc++[z68 s.env o.op]) (i+1) rest (z5p s dst res.v res.u)):DS P34 E34.T ops nt base K acc i (o::rest) s:=by
 obtain ⟨rfl,rfl,hg⟩:=ho
 exact .cons hp hd (.step (by rw [hg]; rfl) hw hs hc fun id hid=> .inl (ht id hid)) h
theorem ty3:(E34.T 3).map (fun t=>(t.size,t.agg,t.zero))=some (1,false,[.int .i64 0]):=by kernel_rfl
theorem ld3 {env:List (Nat×AV)} {h:List AO} {new a id off:Nat} {l:List AV} {x:Int} (ha:z0r env a= .bptr id off) (hh:z0e h id= .box l) (hx:l[off]?=some (.d (.int .i64 x))):
  z0j std E34.T env h new false [] [] (.load 3 (.tmp a))=some ⟨true, .d (.int .i64 x),[]⟩:=by
 cases ht:E34.T 3 with
 |none=>have:=ty3; rw [ht] at this; cases this
 |some ti=>
  have h1:=ty3
  rw [ht] at h1
  simp only [Option.map_some,Option.some.injEq,Prod.mk.injEq] at h1
  simp only [z0j,z0n,ha,ht,z5n,z1n,hh,h1.1,h1.2.1]
  have:∀ (l:List AV) (off:Nat) (v:AV),l[off]?=some v→part l off 1=some [v]:=by
   intro l
   induction l with
   |nil=>intro off v h; simp at h
   |cons y l ih=>
    intro off v h
    cases off with
    |zero=>simp at h; subst h; cases l<;>rfl
    |succ k=>exact ih k v (by simpa using h)
  rw [this l off _ hx]; rfl
theorem z2r {env:List (Nat×AV)} {h:List AO} {t:TypeId} {a id off:Nat} {l:List AV} (ha:z0r env a= .bptr id off) (hh:z0e h id= .box l):(z1b std E34.T env h (.load t (.tmp a))).ok false [] []:=by
 simp only [z1b,z0n,ha,z5n,z24,hh,y3h.ok]
theorem w97 {env:List (Nat×AV)} {h:List AO} {new a b id n j:Nat} (hn:n≤1000) (ha:z0r env a= .slice id 2 0 n none) (hb:z0r env b= .d (.int .i64 (j:Int))):
  z0j std E34.T env h new false [] [] (.indexAddr 64 (.tmp a) (.tmp b))=some ⟨std.cmp .geq (j:Int) 0&&std.cmp .lss (j:Int) (std.ofNat n), .ptr id j 0,[]⟩:=by
 have e:(AV.ptr id j 0)= .ptr id (0+j) 0:=by rw [Nat.zero_add]
 rw [e]
 simp only [z0j,w0o,z0n,ha,hb]
 rfl
theorem w4z {env:List (Nat×AV)} {h:List AO} {a id j:Nat} {E:List (List AV)} {ra:List AV} (ha:z0r env a= .ptr id j 0) (hh:z0e h id= .arow E) (hE:E[j]?=some ra):(z1b std E34.T env h (.load 69 (.tmp a))).ok false [] ra:=by
 simp only [z1b,z0n,ha,z5n,z24,hh,y3h.ok,hE]
theorem w6v {env:List (Nat×AV)} {h:List AO} {new a id j x y:Nat} {E:List (List AV)} (ha:z0r env a= .ptr id j 0) (hh:z0e h id= .arow E):
  z0j std E34.T env h new false [] [.map x, .map y] (.load 69 (.tmp a))=some ⟨true, .agg [.map x, .map y],[]⟩:=by
 simp only [z0j,v3w,z0n,ha,z5n,z1n,hh,v3x]
 rfl
theorem w0y {n j:Nat} (hj:j<n):(z56 n)[j]?=some [.map (2+4*j), .map (3+4*j)]:=by
 simp [z56,hj]
set_option maxHeartbeats 4000000 in
theorem w07 {h:List AO} {N J S:Int} {W V:List (List D)} {n:Nat} {f:Nat→JM×JM} (hf:x2o h N J S W n f) (hn:n≤1000) {L:Nat} (hL:h.length=L+1) (hLn:2+4*n≤L) {j:Nat} (hj:j<n) {y z m t:Int}
  (hv:z0e h L= .box [.d (.int .i64 (j:Int)), .d (.int .i64 y), .d (.int .i64 z)]) {Q:AX→AS→Prop} (hQ:∀ h',x2o h' N J S W n (w8l f j (y0h (f j) y z))→Q .normal ⟨y2w V m t,h',55⟩):
  z2u P34 0 (.region 12 (z6j z8g) true) ⟨(7, .bptr L 0)::y2w V m t,h,55⟩ (fun e s=>∃ s',z2a 0 s s'∧Q e s'):=by
 have htake:(z6j z8g).toList.take 12=[y2v z8g 0,y2v z8g 1,y2v z8g 2,y2v z8g 3,y2v z8g 4,y2v z8g 5,y2v z8g 6,y2v z8g 7,y2v z8g 8,y2v z8g 9,y2v z8g 10,y2v z8g 11]:=by kernel_rfl
 have h69:(z56 n)[j]?=some [.map (2+4*j), .map (3+4*j)]:=w0y hj
 have hnp:0<n:=by omega
 have harr:=hf.arr hnp
 have hs:slJ n= .slice (4*n+1) 2 0 n none:=by unfold slJ; rw [if_neg (by omega)]
 have hb1:=hf.b1
 rw [hs] at hb1
 have hc:(std.cmp .geq (j:Int) 0&&std.cmp .lss (j:Int) (std.ofNat n))=true:=by
  rw [y3y,z4k,Bool.and_eq_true]
  exact ⟨decide_eq_true (by omega),decide_eq_true (by show (j:Int)<(n:Int); omega)⟩
 refine x0r (T:=E34.T) follows_mixed x3r (Nat.zero_le _) (by kernel_rfl) (by kernel_rfl) (m:=12) (by decide+kernel) (by kernel_rfl)
  (K:=fun s1=>s1.heap=h∧z0r s1.env 47= .agg [.map (2+4*j), .map (3+4*j)]∧z0r s1.env 49= .d (.int .i64 y)∧z0r s1.env 51= .d (.int .i64 z)∧∀ v,y23 (y2w V m t) (z4w s1.env 52 v)) ?_ ?_
 ·rw [htake]
  refine z8j (dst:=some 40) (op:= .move (.tmp 5)) ⟨by kernel_rfl,by kernel_rfl,by kernel_rfl⟩ (q:=false) (r:=[]) (ra:=[]) (res:=⟨true, .bptr 1 0,[]⟩) (by kernel_rfl) trivial rfl rfl rfl (by intro id hid; cases hid) ?_
  refine z8j (dst:=some 41) (op:= .nilCheck (.tmp 40)) ⟨by kernel_rfl,by kernel_rfl,by kernel_rfl⟩ (q:=false) (r:=[]) (ra:=[]) (res:=⟨true, .bptr 1 0,[]⟩) (by kernel_rfl) trivial rfl rfl rfl (by intro id hid; cases hid) ?_
  refine z8j (dst:=some 42) (op:= .fieldAddr 66 (.tmp 41) 1) ⟨by kernel_rfl,by kernel_rfl,by kernel_rfl⟩ (q:=false) (r:=[]) (ra:=[]) (res:=⟨true, .bptr 1 4,[]⟩) (by kernel_rfl) trivial (by kernel_rfl) rfl rfl (by intro id hid; cases hid) ?_
  refine z8j (dst:=some 43) (op:= .load 64 (.tmp 42)) ⟨by kernel_rfl,by kernel_rfl,by kernel_rfl⟩ (q:=false) (r:=[]) (ra:=[]) (res:=⟨true, .slice (4*n+1) 2 0 n none,[]⟩) (by kernel_rfl) (y5w rfl hb1) (w32 rfl hb1 rfl) rfl rfl (by
   show ∀ id∈[1],id<h.length
   intro id hid; cases hid with|head=>omega|tail _ h=>cases h) ?_
  refine z8j (dst:=some 44) (op:= .fieldAddr 57 (.tmp 7) 0) ⟨by kernel_rfl,by kernel_rfl,by kernel_rfl⟩ (q:=false) (r:=[]) (ra:=[]) (res:=⟨true, .bptr L 0,[]⟩) (by kernel_rfl) trivial (by kernel_rfl) rfl rfl (by intro id hid; cases hid) ?_
  refine z8j (dst:=some 45) (op:= .load 3 (.tmp 44)) ⟨by kernel_rfl,by kernel_rfl,by kernel_rfl⟩ (q:=false) (r:=[]) (ra:=[]) (res:=⟨true, .d (.int .i64 (j:Int)),[]⟩) (by kernel_rfl) (z2r rfl hv) (ld3 rfl hv rfl) rfl rfl (by
   show ∀ id∈[L],id<h.length
   intro id hid; cases hid with|head=>omega|tail _ h=>cases h) ?_
  refine z8j (dst:=some 46) (op:= .indexAddr 64 (.tmp 43) (.tmp 45)) ⟨by kernel_rfl,by kernel_rfl,by kernel_rfl⟩ (q:=false) (r:=[]) (ra:=[]) (res:=⟨std.cmp .geq (j:Int) 0&&std.cmp .lss (j:Int) (std.ofNat n), .ptr (4*n+1) j 0,[]⟩) (by kernel_rfl) trivial (w97 hn rfl rfl) hc rfl (by intro id hid; cases hid) ?_
  refine z8j (dst:=some 47) (op:= .load 69 (.tmp 46)) ⟨by kernel_rfl,by kernel_rfl,by kernel_rfl⟩ (q:=false) (r:=[]) (ra:=[.map (2+4*j), .map (3+4*j)]) (res:=⟨true, .agg [.map (2+4*j), .map (3+4*j)],[]⟩) (by kernel_rfl) (w4z rfl harr h69) (w6v rfl harr) rfl rfl (by
   show ∀ id∈[4*n+1],id<h.length
   intro id hid; cases hid with|head=>omega|tail _ h=>cases h) ?_
  refine z8j (dst:=some 48) (op:= .fieldAddr 57 (.tmp 7) 1) ⟨by kernel_rfl,by kernel_rfl,by kernel_rfl⟩ (q:=false) (r:=[]) (ra:=[]) (res:=⟨true, .bptr L 1,[]⟩) (by kernel_rfl) trivial (by kernel_rfl) rfl rfl (by intro id hid; cases hid) ?_
  refine z8j (dst:=some 49) (op:= .load 3 (.tmp 48)) ⟨by kernel_rfl,by kernel_rfl,by kernel_rfl⟩ (q:=false) (r:=[]) (ra:=[]) (res:=⟨true, .d (.int .i64 y),[]⟩) (by kernel_rfl) (z2r rfl hv) (ld3 rfl hv rfl) rfl rfl (by
   show ∀ id∈[L],id<h.length
   intro id hid; cases hid with|head=>omega|tail _ h=>cases h) ?_
  refine z8j (dst:=some 50) (op:= .fieldAddr 57 (.tmp 7) 2) ⟨by kernel_rfl,by kernel_rfl,by kernel_rfl⟩ (q:=false) (r:=[]) (ra:=[]) (res:=⟨true, .bptr L 2,[]⟩) (by kernel_rfl) trivial (by kernel_rfl) rfl rfl (by intro id hid; cases hid) ?_
  refine z8j (dst:=some 51) (op:= .load 3 (.tmp 50)) ⟨by kernel_rfl,by kernel_rfl,by kernel_rfl⟩ (q:=false) (r:=[]) (ra:=[]) (res:=⟨true, .d (.int .i64 z),[]⟩) (by kernel_rfl) (z2r rfl hv) (ld3 rfl hv rfl) rfl rfl (by
   show ∀ id∈[L],id<h.length
   intro id hid; cases hid with|head=>omega|tail _ h=>cases h) ?_
  refine .nil ⟨rfl,rfl,rfl,rfl,fun v=>z06 fun x hx=>?_⟩
  simp only [y2w,List.mem_cons,List.not_mem_nil,or_false] at hx
  rcases hx with rfl|rfl|rfl|rfl|rfl<;>rfl
 ·rintro ⟨env1,h1,nt1⟩ ⟨rfl,g47,g49,g51,hle⟩ hnt _
  have hnt:nt1=55:=hnt
  subst hnt
  have hr:List.range' 12 ((z6j z8g).size - 12)=[12]:=by kernel_rfl
  rw [hr]
  obtain ⟨w,o12⟩:=z3x (p:=z8g) (i:=12) (dst:=some 52) (op:= .call ⟨.value (.func 76),#[.tmp 47, .tmp 49, .tmp 51],#[69,3,3]⟩) (by kernel_rfl)
  obtain ⟨o1,o2,o3,o4⟩:=o12
  have hev:z1u env1 #[Operand.tmp 47, .tmp 49, .tmp 51].toList=[.agg [.map (2+4*j), .map (3+4*j)], .d (.int .i64 y), .d (.int .i64 z)]:=by
   show [z0r env1 47,z0r env1 49,z0r env1 51]=_
   rw [g47,g49,g51]
  refine y1t o1 (by rw [o4]; rfl) o3 (g:=76) (first:=[]) (captured:=[]) rfl w2g (r:= .tuple []) (by
   rw [hev]
   exact v2c (Nat.zero_le _) (hf.said j hj) (hf.slip j hj) (by omega) (by omega) (by omega) y z) (by rw [o2]; rfl) ?_
  rw [o2]
  refine z1w ⟨⟨y2w V m t,_,55⟩,z2a.env (n:=0) (s:=⟨_,_,55⟩) (hle _),hQ _ (hf.put hj _)⟩
end Go.Am
end
section
namespace Go.Am
open T11
def z5v (j:Int) (s:JM×JM) (l:List Vt):JM×JM:=l.foldl (fun s v=>if v.1=j then y0h s v.2.1 v.2.2 else s) s
def z1i (l:List Vt) (j:Int):JM×JM:=z5v j ([],[]) l
theorem x5i (l:List Vt) (j:Int) {i:Nat} {v:Vt} (hv:l[i]?=some v):z1i (l.take (i+1)) j=if v.1=j then y0h (z1i (l.take i) j) v.2.1 v.2.2 else z1i (l.take i) j:=by
 unfold z1i z5v
 rw [List.take_add_one,hv,Option.toList_some,List.foldl_append]
 rfl
end Go.Am
end
section
namespace Go.Am
theorem sD46:z9s x2i= .seq (z9s (false::x2i)) (.seq (.cond (.tmp 37) .skip (.exit 2)) (.seq (.block 3 (.seq (.region 11 (z6j y91) false) (.region 12 (z6j z8g) true))) (z9s ([true,true,true]++x2i)))):=by kernel_rfl
theorem v2s:z07 P34 46 (false::x2i)=some (z9s (false::x2i)):=by kernel_rfl
theorem v2q:z07 P34 46 ([true,true,true]++x2i)=some (z9s ([true,true,true]++x2i)):=by kernel_rfl
theorem v1d (V:List (List D)) (m i:Int) (h:List AO):y9v (false::x2i) (y2w V m i) h=some (.normal,⟨⟨y2w V m i++[(37, .d (.bool (std.cmp .lss i m)))],h,55⟩,[]⟩):=by kernel_rfl
theorem v1b (V:List (List D)) (m i:Int) (h:List AO):y9v ([true,true,true]++x2i) (y2w V m i) h=some (.normal,⟨⟨y2w V m (std.ar .add .i64 i 1)++[(53, .d (.int .i64 (std.ar .add .i64 i 1)))],h,55⟩,[]⟩):=by kernel_rfl
theorem x1y (V:List (List D)) (m i:Int) (r:List (Nat×AV)):y23 (y2w V m i) (y2w V m i++r):=by
 refine z06 fun x hx=>?_
 simp only [y2w,List.mem_cons,List.not_mem_nil,or_false] at hx
 rcases hx with rfl|rfl|rfl|rfl|rfl<;>rfl
theorem w41 {h:List AO} {N J S:Int} {l:List Vt} {n:Nat} (hn:n≤1000) (hl:l.length≤1000) (hj:∀ v∈l,0≤v.1∧v.1<(n:Int)) (hf:x2o h N J S (z0g l) n (fun i=>z1i (l.take 0) (i:Int))) {Q:AX→AS→Prop}
  (hQ:∀ h',x2o h' N J S (z0g l) n (fun i=>z1i l (i:Int))→Q (.exit 2) ⟨y2w (z0g l) (l.length:Int) (l.length:Int),h',55⟩):z2u P34 0 (.loop (z9s x2i)) ⟨y2w (z0g l) (l.length:Int) ((0:Nat):Int),h,55⟩ Q:=by
 let ι:={ x:Nat×List AO // x.1≤l.length∧x2o x.2 N J S (z0g l) n (fun i=>z1i (l.take x.1) (i:Int)) }
 let I:ι→AS:=fun g=>⟨y2w (z0g l) (l.length:Int) (g.1.1:Nat),g.1.2,55⟩
 refine z7v (ι:=ι) I (fun g=>l.length - g.1.1) (fun _ _=>rfl) ?_ ⟨(0,h),Nat.zero_le _,hf⟩
 rintro ⟨⟨t,h1⟩,ht,hf1⟩
 have hf1:x2o h1 N J S (z0g l) n (fun i=>z1i (l.take t) (i:Int)):=hf1
 rw [sD46]
 refine z0h ?_
 refine (y7x v2s (v1d (z0g l) (l.length:Int) (t:Int) h1)).mono ?_
 rintro e s ⟨rfl,rfl⟩
 refine z0h ?_
 by_cases hlt:t<l.length
 ·have hc:std.cmp .lss (t:Int) (l.length:Int)=true:=by rw [z4k]; exact decide_eq_true (by omega)
  refine z1x (t:=true) (by show AV.d (.bool (std.cmp .lss (t:Int) (l.length:Int)))=_; rw [hc]) ?_
  rw [if_pos rfl]
  refine z4r ?_
  refine z09 (s':=⟨y2w (z0g l) (l.length:Int) (t:Int),h1,55⟩) (z2a.env (n:=0) (s:=⟨_,h1,55⟩) (x1y _ _ _ _)) ?_
  obtain ⟨v,hv⟩:=z1q (l:=l) (i:=t) hlt
  obtain ⟨hv0,hvn⟩:=hj v (List.mem_of_getElem? hv)
  obtain ⟨j,hvj⟩:∃ j:Nat,v.1=(j:Int):=⟨v.1.toNat,by omega⟩
  have hjn:j<n:=by omega
  refine z0h (z1h (z0h (z0t (z00 ?_))))
  refine w09 (h:=h1) (l:=l) (m:=(l.length:Int)) (t:=t) hv rfl (Q:=fun s'=>z2u P34 0 (.region 12 (z6j z8g) true) s' _) fun h2 hl2 hb2 hk2=>?_
  have hf2:=hf1.keep (by omega) hk2
  have hlen:=hf1.len
  rw [hvj] at hb2
  refine z0t (w07 hf2 hn hl2 hlen hjn (y:=v.2.1) (z:=v.2.2) hb2 (Q:=fun e s'=>_) fun h3 hf3=>?_)
  have hfun:w8l (fun i=>z1i (l.take t) (i:Int)) j (y0h (z1i (l.take t) (j:Int)) v.2.1 v.2.2)=fun i:Nat=>z1i (l.take (t+1)) (i:Int):=by
   funext i
   unfold w8l
   rw [x5i l (i:Int) hv]
   by_cases e:i=j
   ·subst e; rw [if_pos rfl,if_pos hvj]
   ·rw [if_neg e,if_neg (by omega)]
  rw [hfun] at hf3
  show z2u P34 0 (z9s ([true,true,true]++x2i)) ⟨y2w (z0g l) (l.length:Int) (t:Int),h3,55⟩ _
  refine z0t ((y7x v2q (v1b (z0g l) (l.length:Int) (t:Int) h3)).mono ?_)
  rintro e s ⟨rfl,rfl⟩
  rw [w8k (i:=t) (by omega)]
  exact ⟨⟨y2w (z0g l) (l.length:Int) ((t+1:Nat):Int),h3,55⟩,z2a.env (n:=0) (s:=⟨_,h3,55⟩) (x1y _ _ _ _),⟨⟨(t+1,h3),hlt,hf3⟩,rfl,by show l.length - (t+1)<l.length - t; omega⟩⟩
 ·have htl:t=l.length:=by omega
  subst htl
  have hc:std.cmp .lss (l.length:Int) (l.length:Int)=false:=by rw [z4k]; exact decide_eq_false (by omega)
  refine z1x (t:=false) (by show AV.d (.bool (std.cmp .lss (l.length:Int) (l.length:Int)))=_; rw [hc]) ?_
  rw [if_neg (by simp)]
  refine z09 (s':=⟨y2w (z0g l) (l.length:Int) (l.length:Int),h1,55⟩) (z2a.env (n:=0) (s:=⟨_,h1,55⟩) (x1y _ _ _ _)) ?_
  rw [List.take_length] at hf1
  exact z6e (hQ h1 hf1)
end Go.Am
end
section
namespace Go.Am
def z8u (n:Nat) (id:Nat):Bool:=Nat.blt id 2||(Nat.blt id (2+4*n)&&(Nat.beq (id % 4) 2||(Nat.beq (id % 4) 3||Nat.beq id (4*n+1))))
def w8s (N J S:Int) (V:List (List D)) (n:Nat) (f:Nat→JM×JM) (id:Nat):AO:=
 bif Nat.beq id 0 then .box (bkC N J S V) else bif Nat.beq id 1 then .box (bkC N J S V++[slJ n]) else
 bif Nat.beq (id % 4) 2 then .map (EJ.enc (f (id / 4)).1) else bif Nat.beq (id % 4) 3 then .map (EJ.enc (f (id / 4)).2) else
 bif Nat.beq id (4*n+1) then .arow (z56 n) else .dead
def x5w (N J S:Int) (V:List (List D)) (n:Nat) (f:Nat→JM×JM):List AO:=(List.range (2+4*n)).map (w8s N J S V n f)
theorem x3d:∀ (h:List AO) (i:Nat),z0e h i=(h[i]?).getD .dead
 |[],_=>by simp [z0e]
 |_::_,0=>rfl
 |_::r,i+1=>by simpa [z0e] using x3d r i
theorem y8n {N J S:Int} {V:List (List D)} {n:Nat} {f:Nat→JM×JM}:(x5w N J S V n f).length=2+4*n:=by simp [x5w]
theorem z9m {N J S:Int} {V:List (List D)} {n:Nat} {f:Nat→JM×JM} (id:Nat):z0e (x5w N J S V n f) id=if id<2+4*n then w8s N J S V n f id else .dead:=by
 rw [x3d,x5w,List.getElem?_map]
 by_cases h:id<2+4*n
 ·rw [if_pos h,List.getElem?_range h]; rfl
 ·rw [if_neg h,List.getElem?_eq_none (by simp; omega)]; rfl
theorem y8s (a:Nat):Nat.beq a a=true:=Nat.beq_refl a
theorem w25 {N J S:Int} {V:List (List D)} {n:Nat} {f:Nat→JM×JM}:x2o (x5w N J S V n f) N J S V n f:=by
 refine ⟨by rw [y8n]; exact Nat.le_refl _,?_,?_,fun hn=>?_,fun i hi=>?_,fun i hi=>?_⟩
 ·rw [z9m,if_pos (by omega)]; rfl
 ·rw [z9m,if_pos (by omega)]; rfl
 ·rw [z9m,if_pos (by omega)]
  unfold w8s
  rw [z6f (show 4*n+1≠0 by omega),z6f (show 4*n+1≠1 by omega),z6f (show (4*n+1) % 4≠2 by omega),z6f (show (4*n+1) % 4≠3 by omega),y8s]; rfl
 ·rw [z9m,if_pos (by omega)]
  unfold w8s
  rw [z6f (show 2+4*i≠0 by omega),z6f (show 2+4*i≠1 by omega),show (2+4*i) % 4=2 by omega,show (2+4*i) / 4=i by omega]; rfl
 ·rw [z9m,if_pos (by omega)]
  unfold w8s
  rw [z6f (show 3+4*i≠0 by omega),z6f (show 3+4*i≠1 by omega),show (3+4*i) % 4=3 by omega,show (3+4*i) / 4=i by omega]; rfl
theorem w0i (h:List AO) (n:Nat):z36 h (z8u n) (slJ n)=slJ n:=by
 unfold slJ
 by_cases hn:n=0
 ·rw [if_pos hn]; rfl
 ·rw [if_neg hn]
  simp only [z36]
  have:z8u n (4*n+1)=true:=by
   unfold z8u
   have h1:Nat.blt (4*n+1) (2+4*n)=true:=Nat.ble_eq_true_of_le (by omega)
   rw [h1,y8s]; simp
  rw [this]; rfl
theorem x4n (h:List AO) (n:Nat):y85 h (z8u n) (z56 n)=z56 n:=by
 rw [y3l,z56,List.map_map]
 refine List.map_congr_left fun i hi=>?_
 have hi:=List.mem_range.1 hi
 have k1:z8u n (2+4*i)=true:=by
  unfold z8u
  have h1:Nat.blt (2+4*i) (2+4*n)=true:=Nat.ble_eq_true_of_le (by omega)
  rw [h1,show (2+4*i) % 4=2 by omega]; simp
 have k2:z8u n (3+4*i)=true:=by
  unfold z8u
  have h1:Nat.blt (3+4*i) (2+4*n)=true:=Nat.ble_eq_true_of_le (by omega)
  rw [h1,show (3+4*i) % 4=3 by omega]; simp
 show y0r h (z8u n) [.map (2+4*i), .map (3+4*i)]=_
 simp only [y0r,z36,k1,k2,cond_true]
theorem x5n {N J S:Int} {V:List (List D)} {n:Nat} {f:Nat→JM×JM} {h:List AO} (hf:x2o h N J S V n f):x6a (z8u n) h (x5w N J S V n f) where
 nth:=fun id=>by
  have hlen:=hf.len
  rw [z31,Nat.zero_add,z9m]
  by_cases h0:id=0
  ·subst h0
   rw [if_pos (by omega),hf.b0]; rfl
  by_cases h1:id=1
  ·subst h1
   rw [if_pos (by omega),hf.b1]
   show AO.box (bkC N J S V++[slJ n])=AO.box (y0r h (z8u n) (bkC N J S V++[slJ n]))
   have:y0r h (z8u n) (bkC N J S V++[slJ n])=bkC N J S V++[z36 h (z8u n) (slJ n)]:=rfl
   rw [this,w0i]
  have e0:Nat.blt id 2=false:=by
   cases hb:Nat.blt id 2 with
   |false=>rfl
   |true=>have:id<2:=Nat.le_of_ble_eq_true hb; omega
  unfold w8s z8u
  rw [z6f h0,z6f h1,e0,Bool.false_or,cond_false,cond_false]
  by_cases hlt:id<2+4*n
  ·have e1:Nat.blt id (2+4*n)=true:=Nat.ble_eq_true_of_le hlt
   rw [if_pos hlt,e1,Bool.true_and]
   by_cases hm2:id % 4=2
   ·rw [hm2]
    have:=hf.said (id / 4) (by omega)
    rw [show 2+4*(id / 4)=id by omega] at this
    show AO.map (EJ.enc (f (id / 4)).1)=x4o h _ (z0e h id)
    rw [this]; rfl
   by_cases hm3:id % 4=3
   ·rw [hm3]
    have:=hf.slip (id / 4) (by omega)
    rw [show 3+4*(id / 4)=id by omega] at this
    show AO.map (EJ.enc (f (id / 4)).2)=x4o h _ (z0e h id)
    rw [this]; rfl
   rw [z6f hm2,z6f hm3,Bool.false_or,Bool.false_or,cond_false,cond_false]
   by_cases hl:id=4*n+1
   ·subst hl
    rw [y8s,cond_true,if_pos rfl,hf.arr (by omega)]
    have:=x4n h n
    unfold z8u at this
    show AO.arow (z56 n)=AO.arow _
    rw [this]
   ·rw [z6f hl,cond_false,if_neg (by simp)]
  ·have e1:Nat.blt id (2+4*n)=false:=by
    cases hb:Nat.blt id (2+4*n) with
    |false=>rfl
    |true=>exact absurd (Nat.le_of_ble_eq_true hb) hlt
   rw [if_neg hlt,e1,Bool.false_and,if_neg (by simp)]
 len:=fun id hk hl=>by
  rw [y8n]
  unfold z8u at hk
  rw [Bool.or_eq_true,Bool.and_eq_true] at hk
  rcases hk with h|⟨h,_⟩
  ·have:id<2:=Nat.le_of_ble_eq_true h
   omega
  ·exact Nat.le_of_ble_eq_true h
end Go.Am
end
section
namespace Go.Am
noncomputable def u0k:List CF:=[⟨v17,G19⟩]
theorem gokB:GamOk P34 u0k:=fun cf h=>by
 cases h with
 |head=>exact ok19
 |tail _ h=>cases h
noncomputable def O19:Orc opt:=mkOrc opt std E34 20 ⟨u0k,[],[]⟩ []
theorem hO19:y43 P34 O19:=mkOrc_ok w8u gokB _
noncomputable abbrev v4o (g:Nat) (pos:List Bool) (c:Code) (env:List (Nat×AV)) (h:List AO) (nt:Nat):Option (AX×SS):=sym opt std E34 O19 20 (AX×SS) 0 g pos c ⟨⟨env,h,nt⟩,[]⟩ fun e s=>some (e,s)
theorem w9c {g:Nat} {c:Code} {pos:List Bool} {ss:SS} {e:AX} {ss':SS} (hcd:z07 P34 g pos=some c) (h:sym opt std E34 O19 20 (AX×SS) 0 g pos c ss (fun e s=>some (e,s))=some (e,ss')):
  z2u P34 0 c ss.s (fun e' s2=>e'=e∧s2=ss'.s):=by
 obtain ⟨e0,s0,_,hc,hk⟩:=y5y w8u hO19 20 (AX×SS) 0 g pos c ss _ _ hcd (Nat.zero_le _) h
 cases hk; exact hc
def y15 (N J S:Int) (V:List (List D)):AV:= .d (.agg [.int .i64 N, .int .i64 J, .int .i64 S, .list false 3 V])
theorem v2u:z07 P34 46 [false]=some (z9s [false]):=by kernel_rfl
theorem v2n:z07 P34 46 [false,true]=some (z9s [false,true]):=by kernel_rfl
theorem v8n:z07 P34 46 [false,true,true]=some (z9s [false,true,true]):=by kernel_rfl
theorem v8m:z07 P34 46 [false,false,true,true,true]=some (z9s [false,false,true,true,true]):=by kernel_rfl
theorem v2o:z07 P34 46 [true,true,true,true,true]=some (z9s [true,true,true,true,true]):=by kernel_rfl
def w3w:List Bool:=[false,false,true,true,true,true]
theorem s46:z9s []= .seq (z9s [false]) (.seq (z9s [false,true]) (.seq (z9s [false,true,true]) (.seq (.seq (z9s [false,false,true,true,true]) (.block 0 (.loop (z9s x50)))) (.seq (.seq (.region 9 (z6j w3w) false) (.block 2 (.loop (z9s x2i)))) (z9s [true,true,true,true,true]))))):=by kernel_rfl
theorem v1f (N J S:Int) (V:List (List D)):y9v [false] [(0,y15 N J S V)] []=some (.normal,⟨⟨[(0,y15 N J S V),(1, .bptr 0 0),(2, .d .nilp),(3, .d (.int .i64 0))],[.box (bkC N J S V)],55⟩,[]⟩):=by kernel_rfl
theorem v08 (N J S:Int) (V:List (List D)):v4o 46 [false,true] (z9s [false,true]) [(0,y15 N J S V),(1, .bptr 0 0),(2, .d .nilp),(3, .d (.int .i64 0))] [.box (bkC N J S V)] 55=
  opt.bnd (Int×Unit) _ (G19 std (N,(J,(S,(V,()))))) fun y=>opt.ask _ (std.cmp .neq y.1 0)
   (some (.ret,⟨⟨[(0,y15 N J S V),(1, .bptr 0 0),(2, .d .nilp),(3, .d (.int .i64 y.1)),(8,y15 N J S V),(9, .d (.int .i64 y.1)),(4, .d (.int .i64 y.1)),(10, .d (.int .i64 y.1)),(11, .d (.bool true)),(12, .d (.int .i64 y.1))],[.box (bkC N J S V)],55⟩,[]⟩))
   (some (.normal,⟨⟨[(0,y15 N J S V),(1, .bptr 0 0),(2, .d .nilp),(3, .d (.int .i64 0)),(8,y15 N J S V),(9, .d (.int .i64 y.1)),(4, .d (.int .i64 y.1)),(10, .d (.int .i64 y.1)),(11, .d (.bool false))],[.box (bkC N J S V)],55⟩,[]⟩)):=by kernel_rfl
theorem v79 (N J S:Int) (V:List (List D)):y9v [false,true,true] [(1, .bptr 0 0)] [.box (bkC N J S V)]=some (.normal,⟨⟨[(1, .bptr 0 0),(13,y15 N J S V),(14, .d (.agg [.int .i64 N, .int .i64 J, .int .i64 S, .list false 3 V, .list true 0 []])),(15, .bptr 1 0),(5, .bptr 1 0)],[.box (bkC N J S V), .box (bkC N J S V++[.d (.list true 0 [])])],55⟩,[]⟩):=by kernel_rfl
theorem v78 (N J S:Int) (V:List (List D)):y9v [false,false,true,true,true] [(1, .bptr 0 0),(5, .bptr 1 0)] [.box (bkC N J S V), .box (bkC N J S V++[.d (.list true 0 [])])]=some (.normal,⟨⟨[(1, .bptr 0 0),(5, .bptr 1 0),(16, .bptr 0 1),(17, .d (.int .i64 J)),(18, .d (.int .i64 0))],[.box (bkC N J S V), .box (bkC N J S V++[.d (.list true 0 [])])],55⟩,[]⟩):=by kernel_rfl
theorem v09 (h:List AO):y9v [true,true,true,true,true] [(5, .bptr 1 0)] h=some (.ret,⟨⟨[(5, .bptr 1 0),(54, .bptr 1 0),(2, .bptr 1 0),(3, .d (.int .i64 0))],h,55⟩,[]⟩):=by kernel_rfl
theorem u0l:∃ fn,P34.funcs[46]?=some fn∧fn.body=some (z9s [])∧fn.ntmps=55∧fn.results.toList=[.tmp 2, .tmp 3]:=by
 have:(P34.funcs[46]?.map fun fn=>(fn.body,fn.ntmps,fn.results.toList))=some (some (z9s []),55,[.tmp 2, .tmp 3]):=by kernel_rfl
 cases hq:P34.funcs[46]? with
 |none=>rw [hq] at this; cases this
 |some fn=>
  rw [hq] at this
  simp only [Option.map_some,Option.some.injEq,Prod.mk.injEq] at this
  exact ⟨fn,rfl,this.1,this.2.1,this.2.2⟩
theorem y67 {N J S e:Int} {V:List (List D)} (h19:G19 std (N,(J,(S,(V,()))))=some (e,())) (he:e≠0):z6m P34 46 [y15 N J S V] [] (.tuple [.d .nilp, .d (.int .i64 e)]) [.box (bkC N J S V)]:=by
 obtain ⟨fn,hf,hb,hnt,hres⟩:=u0l
 refine z23 x3r hf hb hnt (by show 1≤55; omega) ?_
 rw [hres,s46]
 refine z0h ((y7x v2u (v1f N J S V)).mono ?_)
 rintro e1 s1 ⟨rfl,rfl⟩
 have hc:std.cmp .neq e 0=true:=by rw [x1m,decide_eq_false he]; rfl
 refine z0h ((w9c v2n ((v08 N J S V).trans (by rw [h19]; show opt.ask _ (std.cmp .neq e 0) _ _=_; rw [hc]; rfl))).mono ?_)
 rintro e1 s1 ⟨rfl,rfl⟩
 exact ⟨.inr rfl,rfl,rfl⟩
theorem x72 {env:List (Nat×AV)} {h:List AO} {N J S:Int} {V:List (List D)} {new a:Nat} (ha:z0r env a= .bptr 0 3) (hh:z0e h 0= .box (bkC N J S V)):
  z0j std E34.T env h new false [] [] (.load 22 (.tmp a))=some ⟨true, .d (.list false 3 V),[]⟩:=by
 simp only [z0j,v9u,z0n,ha,z5n,z1n,hh,bkC,v9v]
 rfl
theorem w1o {env:List (Nat×AV)} {h:List AO} {V:List (List D)} {new a:Nat} (ha:z0r env a= .d (.list false 3 V)):
  z0j std E34.T env h new false [] [] (.call ⟨.builtin .len,#[.tmp a],#[22]⟩)=some ⟨true, .d (.int .i64 (std.ofNat (std.len V))),[]⟩:=by
 show z1e std E34.T h new false [] .len [22] [z0r env a]=_
 rw [ha]
 rfl
theorem x6l {env:List (Nat×AV)} {h:List AO} {V:List (List D)} {a:Nat} (ha:z0r env a= .d (.list false 3 V)):(z1b std E34.T env h (.call ⟨.builtin .len,#[.tmp a],#[22]⟩)).ok false [] []:=by
 first
  |exact trivial
  |(simp only [z1b,z1u,z0n,ha]; trivial)
theorem w5u {h:List AO} {N J S:Int} {V:List (List D)} (h0:z0e h 0= .box (bkC N J S V)) {env:List (Nat×AV)} (g1:z0r env 1= .bptr 0 0) (g5:z0r env 5= .bptr 1 0)
  {Q:AS→Prop} (hQ:Q ⟨y2w V (V.length:Int) ((0:Nat):Int),h,55⟩):z4v P34 0 (z6j w3w) (List.range (z6j w3w).size) ⟨env,h,55⟩ (fun s=>∃ s',z2a 0 s s'∧Q s'):=by
 have hr:List.range (z6j w3w).size=[0,1,2,3]:=by kernel_rfl
 obtain ⟨w0,o0⟩:=z3x (p:=w3w) (i:=0) (dst:=some 33) (op:= .fieldAddr 24 (.tmp 1) 3) (by kernel_rfl)
 obtain ⟨w1,o1⟩:=z3x (p:=w3w) (i:=1) (dst:=some 34) (op:= .load 22 (.tmp 33)) (by kernel_rfl)
 obtain ⟨w2,o2⟩:=z3x (p:=w3w) (i:=2) (dst:=some 35) (op:= .call ⟨.builtin .len,#[.tmp 34],#[22]⟩) (by kernel_rfl)
 obtain ⟨w3,o3⟩:=z3x (p:=w3w) (i:=3) (dst:=some 36) (op:= .move (.const (.int .i64 0))) (by kernel_rfl)
 rw [hr]
 refine z3w o0 (q:=false) (r:=[]) (ra:=[]) (res:=⟨true, .bptr 0 3,[]⟩) trivial (by
  have e:z0j std E34.T env h h.length false [] [] (.fieldAddr 24 (.tmp 1) 3)=z0j std E34.T [(1, .bptr 0 0)] h h.length false [] [] (.fieldAddr 24 (.tmp 1) 3):=by
   simp only [z0j,z0n,g1]; rfl
  exact e.trans (by kernel_rfl)) rfl rfl ?_
 show z4v P34 0 _ [1,2,3] ⟨z4w env 33 (.bptr 0 3),h,55⟩ _
 have a33:z0r (z4w env 33 (.bptr 0 3)) 33= .bptr 0 3:=z0v _ _ _
 have a1:z0r (z4w env 33 (.bptr 0 3)) 1= .bptr 0 0:=by rw [z0l _ _ _ _ (by decide)]; exact g1
 have a5:z0r (z4w env 33 (.bptr 0 3)) 5= .bptr 1 0:=by rw [z0l _ _ _ _ (by decide)]; exact g5
 generalize z4w env 33 (.bptr 0 3)=env1 at a33 a1 a5⊢
 refine z3w o1 (q:=false) (r:=[]) (ra:=[]) (res:=⟨true, .d (.list false 3 V),[]⟩) (z2r a33 h0) (x72 a33 h0) rfl rfl ?_
 show z4v P34 0 _ [2,3] ⟨z4w env1 34 (.d (.list false 3 V)),h,55⟩ _
 have b34:z0r (z4w env1 34 (.d (.list false 3 V))) 34= .d (.list false 3 V):=z0v _ _ _
 have b1:z0r (z4w env1 34 (.d (.list false 3 V))) 1= .bptr 0 0:=by rw [z0l _ _ _ _ (by decide)]; exact a1
 have b5:z0r (z4w env1 34 (.d (.list false 3 V))) 5= .bptr 1 0:=by rw [z0l _ _ _ _ (by decide)]; exact a5
 generalize z4w env1 34 (.d (.list false 3 V))=env2 at b34 b1 b5⊢
 refine z3w o2 (q:=false) (r:=[]) (ra:=[]) (res:=⟨true, .d (.int .i64 (std.ofNat (std.len V))),[]⟩) (x6l b34) (w1o b34) rfl rfl ?_
 show z4v P34 0 _ [3] ⟨z4w env2 35 (.d (.int .i64 (V.length:Int))),h,55⟩ _
 refine z3w o3 (q:=false) (r:=[]) (ra:=[]) (res:=⟨true, .d (.int .i64 0),[]⟩) trivial rfl rfl rfl ?_
 refine z1w ⟨_,z2a.env (n:=0) (s:=⟨_,h,55⟩) (z06 fun x hx=>?_),hQ⟩
 simp only [y2w,List.mem_cons,List.not_mem_nil,or_false] at hx
 rcases hx with rfl|rfl|rfl|rfl|rfl
 ·show z0r (z4w (z4w env2 35 _) 36 _) 1=_
  rw [z0l _ 36 1 _ (by decide),z0l _ 35 1 _ (by decide)]; exact b1
 ·show z0r (z4w (z4w env2 35 _) 36 _) 5=_
  rw [z0l _ 36 5 _ (by decide),z0l _ 35 5 _ (by decide)]; exact b5
 ·show z0r (z4w (z4w env2 35 _) 36 _) 34=_
  rw [z0l _ 36 34 _ (by decide),z0l _ 35 34 _ (by decide)]; exact b34
 ·show z0r (z4w (z4w env2 35 _) 36 _) 35=_
  rw [z0l _ 36 35 _ (by decide),z0v]
 ·show z0r (z4w (z4w env2 35 _) 36 _) 36=_
  rw [z0v]; rfl
theorem w4p {N S:Int} {n:Nat} {l:List Vt} (h19:G19 std (N,((n:Int),(S,(z0g l,()))))=some (0,())) (hn:n≤1000) (hl:l.length≤1000) (hj:∀ v∈l,0≤v.1∧v.1<(n:Int)):
  z6m P34 46 [y15 N n S (z0g l)] [] (.tuple [.bptr 1 0, .d (.int .i64 0)]) (x5w N n S (z0g l) n (fun i=>z1i l (i:Int))):=by
 obtain ⟨fn,hf,hb,hnt,hres⟩:=u0l
 refine z23 x3r hf hb hnt (by show 1≤55; omega) ?_
 rw [hres,s46]
 refine z0h ((y7x v2u (v1f N n S (z0g l))).mono ?_)
 rintro e1 s1 ⟨rfl,rfl⟩
 refine z0h ((w9c v2n ((v08 N n S (z0g l)).trans (by rw [h19]; rfl))).mono ?_)
 rintro e1 s1 ⟨rfl,rfl⟩
 refine z09 (s':=⟨[(1, .bptr 0 0)],[.box (bkC N n S (z0g l))],55⟩) (z2a.env (n:=0) (s:=⟨_,[.box (bkC N n S (z0g l))],55⟩) (z06 fun x hx=>by
  simp only [List.mem_cons,List.not_mem_nil,or_false] at hx
  rcases hx with rfl; rfl)) ?_
 refine z0h ((y7x v8n (v79 N n S (z0g l))).mono ?_)
 rintro e1 s1 ⟨rfl,rfl⟩
 refine z09 (s':=⟨[(1, .bptr 0 0),(5, .bptr 1 0)],[.box (bkC N n S (z0g l)), .box (bkC N n S (z0g l)++[.d (.list true 0 [])])],55⟩) (z2a.env (n:=0) (s:=⟨_,[.box (bkC N n S (z0g l)), .box (bkC N n S (z0g l)++[.d (.list true 0 [])])],55⟩) (z06 fun x hx=>by
  simp only [List.mem_cons,List.not_mem_nil,or_false] at hx
  rcases hx with rfl|rfl<;>rfl)) ?_
 refine z0h (z0h ((y7x v8m (v78 N n S (z0g l))).mono ?_))
 rintro e1 s1 ⟨rfl,rfl⟩
 refine z09 (s':=⟨mkJ (n:Int) ((0:Nat):Int),[.box (bkC N n S (z0g l)), .box (bkC N n S (z0g l)++[.d (.list true 0 [])])],55⟩) (z2a.env (n:=0) (s:=⟨_,[.box (bkC N n S (z0g l)), .box (bkC N n S (z0g l)++[.d (.list true 0 [])])],55⟩) (z06 fun x hx=>by
  simp only [mkJ,List.mem_cons,List.not_mem_nil,or_false] at hx
  rcases hx with rfl|rfl|rfl|rfl<;>rfl)) ?_
 refine z1h ?_
 have hf0:x97 [.box (bkC N n S (z0g l)), .box (bkC N n S (z0g l)++[.d (.list true 0 [])])] N n S (z0g l) 0 (fun i=>z1i (l.take 0) (i:Int)):=
  ⟨rfl,rfl,rfl,fun h=>absurd h (Nat.lt_irrefl 0),fun i hi=>absurd hi (Nat.not_lt_zero i),fun i hi=>absurd hi (Nat.not_lt_zero i)⟩
 refine w9y (M:=n) hf0 hn (fun i=>rfl) fun h' hf'=>?_
 simp only [if_true]
 have hf7:=hf'.to7
 refine z0h (z0h (z0t (z00 (w5u hf7.b0 rfl rfl (Q:=fun s'=>z2u P34 0 (.block 2 (.loop (z9s x2i))) s' _) ?_))))
 rw [show (z0g l).length=l.length from by simp [z0g]]
 refine z1h ?_
 refine w41 hn hl hj hf7 fun h2 hf2=>?_
 simp only [if_true]
 refine z09 (s':=⟨[(5, .bptr 1 0)],h2,55⟩) (z2a.env (n:=0) (s:=⟨_,h2,55⟩) (z06 fun x hx=>by
  simp only [List.mem_cons,List.not_mem_nil,or_false] at hx
  rcases hx with rfl; rfl)) ?_
 refine z0t ((y7x v2o (v09 h2)).mono ?_)
 rintro e1 s1 ⟨rfl,rfl⟩
 have hv:=z2a.view (n:=0) (s:=⟨[(5, .bptr 1 0),(54, .bptr 1 0),(2, .bptr 1 0),(3, .d (.int .i64 0))],h2,55⟩) (z8u n) (fun id hid=>absurd hid (Nat.not_lt_zero _)) (x5n hf2)
 refine ⟨_,hv, .inr rfl,?_,rfl⟩
 rfl
end Go.Am
end
section
namespace Go.Am
noncomputable def cdF (g:Nat) (pos:List Bool):Code:=(z07 P34 g pos).getD .skip
noncomputable def z2v (g:Nat) (pos:List Bool):Array Oper:=
 match cdF g pos with
 | .region _ ops _=>ops
 |_=>#[]
theorem z05 {g:Nat} {p:List Bool} {i:Nat} {dst:Option Tmp} {op:Op} (h:((z2v g p)[i]?.map fun o=>(o.dst,o.op,o.guard))=some (dst,op,none)):∃ o,(z2v g p)[i]?=some o∧o.dst=dst∧o.op=op∧o.guard=none:=by
 cases ho:(z2v g p)[i]? with
 |none=>rw [ho] at h; cases h
 |some o=>
  rw [ho] at h
  simp only [Option.map_some,Option.some.injEq,Prod.mk.injEq] at h
  exact ⟨o,rfl,h.1,h.2.1,h.2.2⟩
theorem rgF {g:Nat} {c:Code} {pos:List Bool} {ss:SS} {e:AX} {ss':SS} (hcd:z07 P34 g pos=some c) (h:sym opt std E34 (w1g opt) 20 (AX×SS) 0 g pos c ss (fun e s=>some (e,s))=some (e,ss')):
  z2u P34 0 c ss.s (fun e' s2=>e'=e∧s2=ss'.s):=by
 obtain ⟨e0,s0,_,hc,hk⟩:=y5y w8u y4c 20 (AX×SS) 0 g pos c ss _ _ hcd (Nat.zero_le _) h
 cases hk; exact hc
noncomputable abbrev w5p (g:Nat) (pos:List Bool) (env:List (Nat×AV)) (h:List AO) (nt:Nat):Option (AX×SS):=sym opt std E34 (w1g opt) 20 (AX×SS) 0 g pos (cdF g pos) ⟨⟨env,h,nt⟩,[]⟩ fun e s=>some (e,s)
def slB (b n:Nat):AV:=if n=0 then .d (.list true 0 []) else .slice (b+(4*n+1)) 2 0 n none
def x7d (b n:Nat):List (List AV):=(List.range n).map fun i=>[AV.map (b+(2+4*i)),AV.map (b+(3+4*i))]
theorem y9w {b n j:Nat} (hj:j<n):(x7d b n)[j]?=some [.map (b+(2+4*j)), .map (b+(3+4*j))]:=by simp [x7d,hj]
structure x6f (h:List AO) (b:Nat) (N J S:Int) (V:List (List D)) (n:Nat) (f:Nat→JM×JM):Prop where
 len:b+(2+4*n)≤h.length
 b1:z0e h (b+1)= .box (bkC N J S V++[slB b n])
 arr:0<n→z0e h (b+(4*n+1))= .arow (x7d b n)
 said:∀ i,i<n→z0e h (b+(2+4*i))= .map (EJ.enc (f i).1)
 slip:∀ i,i<n→z0e h (b+(3+4*i))= .map (EJ.enc (f i).2)
theorem x6f.keep {h h':List AO} {b:Nat} {N J S:Int} {V:List (List D)} {n:Nat} {f:Nat→JM×JM} (hf:x6f h b N J S V n f) (hl:h.length≤h'.length) (hk:∀ j,b<j→j<b+(2+4*n)→z0e h' j=z0e h j):x6f h' b N J S V n f:=by
 have hh:=hf.len
 refine ⟨by omega,?_,fun hn=>?_,fun i hi=>?_,fun i hi=>?_⟩
 ·rw [hk _ (by omega) (by omega)]; exact hf.b1
 ·rw [hk _ (by omega) (by omega)]; exact hf.arr hn
 ·rw [hk _ (by omega) (by omega)]; exact hf.said i hi
 ·rw [hk _ (by omega) (by omega)]; exact hf.slip i hi
theorem x4c {n:Nat} {env:List (Nat×AV)} {h:List AO} {nt:Nat} {g:FuncId} {args:List AV} {r:AV} {hT:List AO} (hn:n≤h.length) (ha:∀ x∈args,∃ d,x=AV.d d) (har:z6m P34 g args [] r hT):
  z4f P34 n g args ⟨env,h,nt⟩ (z5e (z1d [] h.length) r) ⟨env,z1g (z1d [] h.length) h 0 hT,nt⟩:=by
 refine z9g (P:=P34) (n:=n) (s:=⟨env,h,nt⟩) (σ:=[]) hn rfl rfl (hT:=[]) (Nat.zero_le _) (fun ρ w hr=>⟨trivial,rfl,fun f hf i y hy=>?_⟩) har
 obtain ⟨d,rfl⟩:=ha y (List.mem_of_getElem? hy)
 have:=hf i _ hy
 generalize f i=v at this⊢
 cases this with|d hd=>exact .d hd
theorem z8o (b j:Nat):z1d [] b j=b+j:=rfl
theorem y5v (h:List AO) (hT:List AO):h.length≤(z1g (z1d [] h.length) h 0 hT).length∧(∀ k,k<hT.length→h.length+k<(z1g (z1d [] h.length) h 0 hT).length)∧
  (∀ k,k<hT.length→z0e (z1g (z1d [] h.length) h 0 hT) (h.length+k)=y8z (z1d [] h.length) (z0e hT k))∧∀ id,id<h.length→z0e (z1g (z1d [] h.length) h 0 hT) id=z0e h id:=by
 have inj:∀ a b:Nat,z1d [] h.length a=z1d [] h.length b→a=b:=fun a b e=>by rw [z8o,z8o] at e; omega
 refine ⟨(z66 _ hT h 0).1,fun k hk=>?_,fun k hk=>?_,fun id hid=>?_⟩
 ·have:=(z66 (z1d [] h.length) hT h 0).2 k hk
  rwa [Nat.zero_add,z8o] at this
 ·have:=(z84 (z1d [] h.length) hT h 0 0 (fun a b _ _ _ _ e=>inj a b e)).1 k hk
  rwa [Nat.zero_add,z8o] at this
 ·refine (z84 (z1d [] h.length) hT h 0 id (fun a b _ _ _ _ e=>inj a b e)).2 fun k hk=>?_
  rw [Nat.zero_add,z8o]; omega
theorem w5r (b n:Nat):z5e (z1d [] b) (slJ n)=slB b n:=by
 unfold slJ slB
 by_cases hn:n=0
 ·rw [if_pos hn,if_pos hn]; rfl
 ·rw [if_neg hn,if_neg hn]; rfl
theorem x3w (h:List AO) (N J S:Int) (V:List (List D)) (n:Nat) (f:Nat→JM×JM):x6f (z1g (z1d [] h.length) h 0 (x5w N J S V n f)) h.length N J S V n f:=by
 obtain ⟨w1,w2,w3,w4⟩:=y5v h (x5w N J S V n f)
 rw [y8n] at w2 w3
 have hf:=w25 (N:=N) (J:=J) (S:=S) (V:=V) (n:=n) (f:=f)
 refine ⟨?_,?_,fun hn=>?_,fun i hi=>?_,fun i hi=>?_⟩
 ·have:=w2 (2+4*n - 1) (by omega); omega
 ·rw [w3 1 (by omega),hf.b1]
  show AO.box (x1q (z1d [] h.length) (bkC N J S V++[slJ n]))=_
  have:x1q (z1d [] h.length) (bkC N J S V++[slJ n])=bkC N J S V++[z5e (z1d [] h.length) (slJ n)]:=rfl
  rw [this,w5r]
 ·rw [w3 _ (by omega),hf.arr hn]
  show AO.arow (x43 (z1d [] h.length) (z56 n))=_
  rw [z9d,z56,List.map_map]
  rfl
 ·rw [w3 _ (by omega),hf.said i hi]; rfl
 ·rw [w3 _ (by omega),hf.slip i hi]; rfl
end Go.Am
end
section
namespace Go.Am
theorem x29 {ops:Array Oper} {i:Nat} {rest:List Nat} {s s':AS} {Q:AS→Prop} {o:Oper} {dst:Option Tmp} {g:FuncId} {args:Array Operand} {ts:Array TypeId} {r:AV}
  (ho:ops[i]?=some o∧o.dst=dst∧o.op= .call ⟨.value (.func g),args,ts⟩∧o.guard=none) (hen:z13 P34 g) (hret:z4f P34 0 g (z1u s.env args.toList) s r s') (hd:z4x s.nt dst=true)
  (h:z4v P34 0 ops rest ⟨y26 s'.env dst r,s'.heap,s'.nt⟩ Q):z4v P34 0 ops (i::rest) s Q:=by
 obtain ⟨h1,rfl,h3,h4⟩:=ho
 exact y1t h1 (by rw [h4]; rfl) h3 (g:=g) (first:=[]) (captured:=[]) rfl hen (by rw [List.nil_append,List.append_nil]; exact hret) hd h
theorem x3y:z13 P34 46:=enters_auto (b:=_) rfl (by kernel_rfl)
theorem v9t:(E34.T 24).map (fun t=>(t.size,t.agg))=some (4,true):=by kernel_rfl
theorem u0h {env:List (Nat×AV)} {h:List AO} {new a:Nat} {N J S:Int} {V:List (List D)} (ha:z0r env a= .bptr 0 0) (hh:z0e h 0= .box (bkC N J S V)):
  z0j std E34.T env h new false [] [] (.load 24 (.tmp a))=some ⟨true,y15 N J S V,[]⟩:=by
 cases ht:E34.T 24 with
 |none=>have:=v9t; rw [ht] at this; cases this
 |some ti=>
  have h1:=v9t
  rw [ht] at h1
  simp only [Option.map_some,Option.some.injEq,Prod.mk.injEq] at h1
  simp only [z0j,z0n,ha,ht,z5n,z1n,hh,h1.1,h1.2]
  rfl
theorem x7j {N J S e:Int} {V:List (List D)} {r0:AV} {hT:List AO} (har:z6m P34 46 [y15 N J S V] [] (.tuple [r0, .d (.int .i64 e)]) hT)
  {Q:AS→Prop} (hQ:Q ⟨[(1, .bptr 0 0),(2, .d (.list true 0 [])),(3, .d (.int .i64 0)),(4,z5e (z1d [] 1) r0),(5, .d (.int .i64 e))],z1g (z1d [] 1) [.box (bkC N J S V)] 0 hT,38⟩):
  z4v P34 0 (z2v 15 [false,true]) (List.range (z2v 15 [false,true]).size) ⟨[(0,y15 N J S V),(1, .bptr 0 0),(2, .d (.list true 0 [])),(3, .d (.int .i64 0))],[.box (bkC N J S V)],38⟩ (fun s=>∃ s',z2a 0 s s'∧Q s'):=by
 have hr:List.range (z2v 15 [false,true]).size=[0,1,2,3,4,5,6]:=by kernel_rfl
 obtain ⟨w0,o0⟩:=z05 (g:=15) (p:=[false,true]) (i:=0) (dst:=some 10) (op:= .load 24 (.tmp 1)) (by kernel_rfl)
 obtain ⟨w1,o1⟩:=z05 (g:=15) (p:=[false,true]) (i:=1) (dst:=some 11) (op:= .call ⟨.value (.func 46),#[.tmp 10],#[24]⟩) (by kernel_rfl)
 obtain ⟨w2,o2⟩:=z05 (g:=15) (p:=[false,true]) (i:=2) (dst:=some 9) (op:= .move (.tmp 11)) (by kernel_rfl)
 obtain ⟨w3,o3⟩:=z05 (g:=15) (p:=[false,true]) (i:=3) (dst:=some 12) (op:= .extract (.tmp 9) 0) (by kernel_rfl)
 obtain ⟨w4,o4⟩:=z05 (g:=15) (p:=[false,true]) (i:=4) (dst:=some 13) (op:= .extract (.tmp 9) 1) (by kernel_rfl)
 obtain ⟨w5,o5⟩:=z05 (g:=15) (p:=[false,true]) (i:=5) (dst:=some 4) (op:= .assign (.tmp 12)) (by kernel_rfl)
 obtain ⟨w6,o6⟩:=z05 (g:=15) (p:=[false,true]) (i:=6) (dst:=some 5) (op:= .assign (.tmp 13)) (by kernel_rfl)
 rw [hr]
 refine z3w o0 (q:=false) (r:=[]) (ra:=[]) (res:=⟨true,y15 N J S V,[]⟩) trivial (u0h rfl rfl) rfl rfl ?_
 refine x29 o1 x3y (r:=z5e (z1d [] 1) (.tuple [r0, .d (.int .i64 e)])) (x4c (Nat.zero_le _) (fun x hx=>by
  have hx:x∈[y15 N J S V]:=hx
  rw [List.mem_singleton] at hx
  exact ⟨_,hx⟩) har) rfl ?_
 have er:z5e (z1d [] 1) (.tuple [r0, .d (.int .i64 e)])= .tuple [z5e (z1d [] 1) r0, .d (.int .i64 e)]:=rfl
 rw [er]
 show z4v P34 0 _ [2,3,4,5,6] ⟨_,z1g (z1d [] 1) [.box (bkC N J S V)] 0 hT,38⟩ _
 generalize z5e (z1d [] 1) r0=x at hQ⊢
 generalize z1g (z1d [] 1) [.box (bkC N J S V)] 0 hT=H at hQ⊢
 refine z3w o2 (q:=false) (r:=[]) (ra:=[]) (res:=⟨true, .tuple [x, .d (.int .i64 e)],[]⟩) trivial rfl rfl rfl ?_
 refine z3w o3 (q:=false) (r:=[]) (ra:=[]) (res:=⟨true,x,[]⟩) trivial rfl rfl rfl ?_
 refine z3w o4 (q:=false) (r:=[]) (ra:=[]) (res:=⟨true, .d (.int .i64 e),[]⟩) trivial rfl rfl rfl ?_
 refine z3w o5 (q:=false) (r:=[]) (ra:=[]) (res:=⟨true,x,[]⟩) trivial rfl rfl rfl ?_
 refine z3w o6 (q:=false) (r:=[]) (ra:=[]) (res:=⟨true, .d (.int .i64 e),[]⟩) trivial rfl rfl rfl ?_
 refine z1w ⟨_,z2a.env (n:=0) (s:=⟨_,H,38⟩) (z06 fun x hx=>?_),hQ⟩
 simp only [List.mem_cons,List.not_mem_nil,or_false] at hx
 rcases hx with rfl|rfl|rfl|rfl|rfl<;>rfl
def B15:List Bool:=[false,false,true,false,true,true,true,true]
def w0b:List Bool:=[false,true,true,true]
def x46:List Bool:=[false,false,true,true,true,true]
def x99:List Bool:=[false,false,false,true,true]++B15
def x6b:List Bool:=[true,false,false,true,true]++B15
theorem s15:cdF 15 []= .seq (cdF 15 [false]) (.seq (.region 1 (z2v 15 [false,true]) false) (.seq (cdF 15 [false,true,true]) (.seq (.region 4 (z2v 15 w0b) false) (.seq (.seq (.region 5 (z2v 15 x46) false) (.block 0 (.loop (cdF 15 B15)))) (cdF 15 [true,true,true,true,true]))))):=by kernel_rfl
theorem sB15:cdF 15 B15= .seq (cdF 15 (false::B15)) (.seq (.cond (.tmp 26) .skip (.exit 0)) (.seq (.block 1 (.seq (.region 7 (z2v 15 x99) false) (.region 8 (z2v 15 x6b) false))) (cdF 15 ([true,true,true]++B15)))):=by kernel_rfl
theorem w53 {N S:Int} {V:List (List D)} {n:Nat} (hn:n≤1000) {h:List AO} (h0:z0e h 0= .box (bkC N n S V)) {x:AV}
  {Q:AS→Prop} (hQ:Q ⟨[(1, .bptr 0 0),(4,x),(6, .slice h.length 1 0 n (some n))],z0o h h.length (.row (List.replicate n [.int .i64 0])),38⟩):
  z4v P34 0 (z2v 15 w0b) (List.range (z2v 15 w0b).size) ⟨[(1, .bptr 0 0),(4,x)],h,38⟩ (fun s=>∃ s',z2a 0 s s'∧Q s'):=by
 have hr:List.range (z2v 15 w0b).size=[0,1,2,3]:=by kernel_rfl
 obtain ⟨w0,o0⟩:=z05 (g:=15) (p:=w0b) (i:=0) (dst:=some 17) (op:= .fieldAddr 24 (.tmp 1) 1) (by kernel_rfl)
 obtain ⟨w1,o1⟩:=z05 (g:=15) (p:=w0b) (i:=1) (dst:=some 18) (op:= .load 3 (.tmp 17)) (by kernel_rfl)
 obtain ⟨w2,o2⟩:=z05 (g:=15) (p:=w0b) (i:=2) (dst:=some 19) (op:= .makeSlice 26 (.tmp 18) (.tmp 18)) (by kernel_rfl)
 obtain ⟨w3,o3⟩:=z05 (g:=15) (p:=w0b) (i:=3) (dst:=some 6) (op:= .assign (.tmp 19)) (by kernel_rfl)
 rw [hr]
 refine z3w o0 (q:=false) (r:=[]) (ra:=[]) (res:=⟨true, .bptr 0 1,[]⟩) trivial (by kernel_rfl) rfl rfl ?_
 refine z3w o1 (q:=false) (r:=[]) (ra:=[]) (res:=⟨true, .d (.int .i64 (n:Int)),[]⟩) (z2r rfl h0) (ld3 rfl h0 rfl) rfl rfl ?_
 have hc:std.and (std.cmp .geq (n:Int) 0) (std.and (std.cmp .leq (n:Int) n) (std.cmp .leq (n:Int) 1000000))=true:=by
  rw [y3y,y7m,y7m,x6z,x6z,decide_eq_true (show (n:Int)≥0 by omega),decide_eq_true (Int.le_refl _),decide_eq_true (show (n:Int)≤1000000 by omega)]; rfl
 refine z3w o2 (q:=false) (r:=[]) (ra:=[]) (res:=⟨std.and (std.cmp .geq (n:Int) 0) (std.and (std.cmp .leq (n:Int) n) (std.cmp .leq (n:Int) 1000000)), .slice h.length 1 0 n (some n),[(h.length, .row (List.replicate n [.int .i64 0]))]⟩) trivial (by
  show z0j std E34.T [(1, .bptr 0 0),(4,x),(17, .bptr 0 1),(18, .d (.int .i64 (n:Int)))] h h.length false [] [] (.makeSlice 26 (.tmp 18) (.tmp 18))=_
  simp only [z0j,w3r]
  rfl) hc rfl ?_
 refine z3w o3 (q:=false) (r:=[]) (ra:=[]) (res:=⟨true, .slice h.length 1 0 n (some n),[]⟩) trivial rfl rfl rfl ?_
 refine z1w ⟨_,z2a.env (n:=0) (s:=⟨_,_,38⟩) (z06 fun x hx=>?_),hQ⟩
 simp only [List.mem_cons,List.not_mem_nil,or_false] at hx
 rcases hx with rfl|rfl|rfl<;>rfl
end Go.Am
end
section
namespace Go.Am
def slN (b n:Nat):AV:= .slice (b+(4*n+1)) 2 0 n none
theorem x67 {b n:Nat} (hn:0<n):slB b n=slN b n:=by unfold slB slN; rw [if_neg (by omega)]
theorem w91 {env:List (Nat×AV)} {h:List AO} {N J S:Int} {V:List (List D)} {v:AV} {new a x:Nat} (ha:z0r env a= .bptr x 4) (hh:z0e h x= .box (bkC N J S V++[v])) (hv:z3z false [v]=some v):
  z0j std E34.T env h new false [] [] (.load 64 (.tmp a))=some ⟨true,v,[]⟩:=by
 simp only [z0j,w0o,z0n,ha,z5n,z1n,hh,bkC,w47]
 show (z3z false [v]).bind ok=_
 rw [hv]; rfl
theorem u0g {env:List (Nat×AV)} {h:List AO} {new a b n:Nat} (ha:z0r env a=slN b n):
  z0j std E34.T env h new false [] [] (.call ⟨.builtin .len,#[.tmp a],#[64]⟩)=some ⟨true, .d (.int .i64 (n:Int)),[]⟩:=by
 show z1e std E34.T h new false [] .len [64] [z0r env a]=_
 rw [ha]
 simp only [z1e,w0o]
 rfl
def y76 (L n:Nat) (i:Int):List (Nat×AV):=[(6, .slice L 1 0 n (some n)),(23,slN 1 n),(24, .d (.int .i64 (n:Int))),(25, .d (.int .i64 i))]
theorem y4g {L n:Nat} {i:Int} {env:List (Nat×AV)} (h6:z0r env 6= .slice L 1 0 n (some n)) (h23:z0r env 23=slN 1 n) (h24:z0r env 24= .d (.int .i64 (n:Int))) (h25:z0r env 25= .d (.int .i64 i)):y23 (y76 L n i) env:=by
 refine z06 fun x hx=>?_
 simp only [y76,List.mem_cons,List.not_mem_nil,or_false] at hx
 rcases hx with rfl|rfl|rfl|rfl
 ·exact h6
 ·exact h23
 ·exact h24
 ·exact h25
theorem w51 {N S:Int} {V:List (List D)} {n L:Nat} (hn:0<n) {f:Nat→JM×JM} {h:List AO} (hf:x6f h 1 N n S V n f)
  {Q:AS→Prop} (hQ:Q ⟨y76 L n ((0:Nat):Int),h,38⟩):
  z4v P34 0 (z2v 15 x46) (List.range (z2v 15 x46).size) ⟨[(1, .bptr 0 0),(4, .bptr 2 0),(6, .slice L 1 0 n (some n))],h,38⟩ (fun s=>∃ s',z2a 0 s s'∧Q s'):=by
 have hr:List.range (z2v 15 x46).size=[0,1,2,3,4,5]:=by kernel_rfl
 obtain ⟨w0,o0⟩:=z05 (g:=15) (p:=x46) (i:=0) (dst:=some 20) (op:= .move (.tmp 4)) (by kernel_rfl)
 obtain ⟨w1,o1⟩:=z05 (g:=15) (p:=x46) (i:=1) (dst:=some 21) (op:= .nilCheck (.tmp 20)) (by kernel_rfl)
 obtain ⟨w2,o2⟩:=z05 (g:=15) (p:=x46) (i:=2) (dst:=some 22) (op:= .fieldAddr 66 (.tmp 21) 1) (by kernel_rfl)
 obtain ⟨w3,o3⟩:=z05 (g:=15) (p:=x46) (i:=3) (dst:=some 23) (op:= .load 64 (.tmp 22)) (by kernel_rfl)
 obtain ⟨w4,o4⟩:=z05 (g:=15) (p:=x46) (i:=4) (dst:=some 24) (op:= .call ⟨.builtin .len,#[.tmp 23],#[64]⟩) (by kernel_rfl)
 obtain ⟨w5,o5⟩:=z05 (g:=15) (p:=x46) (i:=5) (dst:=some 25) (op:= .move (.const (.int .i64 0))) (by kernel_rfl)
 have hb:=hf.b1
 rw [x67 hn] at hb
 rw [hr]
 refine z3w o0 (q:=false) (r:=[]) (ra:=[]) (res:=⟨true, .bptr 2 0,[]⟩) trivial rfl rfl rfl ?_
 refine z3w o1 (q:=false) (r:=[]) (ra:=[]) (res:=⟨true, .bptr 2 0,[]⟩) trivial rfl rfl rfl ?_
 refine z3w o2 (q:=false) (r:=[]) (ra:=[]) (res:=⟨true, .bptr 2 4,[]⟩) trivial (by kernel_rfl) rfl rfl ?_
 refine z3w o3 (q:=false) (r:=[]) (ra:=[]) (res:=⟨true,slN 1 n,[]⟩) (z2r rfl hb) (w91 rfl hb rfl) rfl rfl ?_
 refine z3w o4 (q:=false) (r:=[]) (ra:=[]) (res:=⟨true, .d (.int .i64 (n:Int)),[]⟩) (by exact trivial) (u0g (b:=1) rfl) rfl rfl ?_
 refine z3w o5 (q:=false) (r:=[]) (ra:=[]) (res:=⟨true, .d (.int .i64 0),[]⟩) trivial rfl rfl rfl ?_
 exact z1w ⟨_,z2a.env (n:=0) (s:=⟨_,_,38⟩) (y4g rfl rfl rfl rfl),hQ⟩
theorem x90 {env:List (Nat×AV)} {h:List AO} {new:Nat}:z0j std E34.T env h new false [] [] (.alloc 69)=some ⟨true, .bptr new 0,[(new, .box [.d .nilm, .d .nilm])]⟩:=by
 simp only [z0j,v3w]
 rfl
theorem x6x {env:List (Nat×AV)} {h:List AO} {new a c id x y:Nat} (ha:z0r env a= .bptr id 0) (hc:z0r env c= .agg [.map x, .map y]) (hh:z0e h id= .box [.d .nilm, .d .nilm]):
  z0j std E34.T env h new false [] [] (.store 69 (.tmp a) (.tmp c))=some ⟨true, .bot,[(id, .box [.map x, .map y])]⟩:=by
 simp only [z0j,v3w,z0n,ha,hc,z2e,z1y,v3x,z1m,hh]
 rfl
theorem x2p {env:List (Nat×AV)} {h:List AO} {t:TypeId} {a c id off:Nat} {l:List AV} (ha:z0r env a= .bptr id off) (hh:z0e h id= .box l):(z1b std E34.T env h (.store t (.tmp a) (.tmp c))).ok false [] []:=by
 simp only [z1b,z0n,ha,z24,hh,y3h.ok]
theorem u0j {env:List (Nat×AV)} {h:List AO} {new a c b n j:Nat} (ha:z0r env a=slN b n) (hb:z0r env c= .d (.int .i64 (j:Int))):
  z0j std E34.T env h new false [] [] (.indexAddr 64 (.tmp a) (.tmp c))=some ⟨std.cmp .geq (j:Int) 0&&std.cmp .lss (j:Int) (std.ofNat n), .ptr (b+(4*n+1)) j 0,[]⟩:=by
 have e:(AV.ptr (b+(4*n+1)) j 0)= .ptr (b+(4*n+1)) (0+j) 0:=by rw [Nat.zero_add]
 rw [e]
 simp only [z0j,w0o,z0n,ha,hb]
 rfl
theorem v5z {env:List (Nat×AV)} {h:List AO} {new a id x y:Nat} {off z:Nat} (ha:z0r env a= .bptr id off) (hh:z0e h id= .box [.map x, .map y]) (hz:([AV.map x, .map y])[off]?=some (.map z)):
  z0j std E34.T env h new false [] [] (.load 67 (.tmp a))=some ⟨true, .map z,[]⟩:=by
 simp only [z0j,w43,z0n,ha,z5n,z1n,hh,w81]
 match off,hz with
 |0,hz=>cases hz; rfl
 |1,hz=>cases hz; rfl
 |k+2,hz=>simp at hz
theorem u0f {env:List (Nat×AV)} {h:List AO} {new a z:Nat} {m:JM} (ha:z0r env a= .map z) (hh:z0e h z= .map (EJ.enc m)):
  z0j std E34.T env h new false [] [] (.call ⟨.builtin .len,#[.tmp a],#[67]⟩)=some ⟨true, .d (.int .i64 (m.length:Int)),[]⟩:=by
 show z1e std E34.T h new false [] .len [67] [z0r env a]=_
 rw [ha]
 simp only [z1e,w43,w0d,w81,hh]
 have:std.mlen (EJ.enc m)=m.length:=by
  first
   |rfl
   |(show (EJ.enc m).length=_; simp [x93.enc])
 show some (Res.mk true (.d (.int .i64 (std.ofNat (std.mlen (EJ.enc m))))) [])=_
 rw [this]; rfl
theorem v6u {env:List (Nat×AV)} {h:List AO} {new a c L n j:Nat} (ha:z0r env a= .slice L 1 0 n (some n)) (hb:z0r env c= .d (.int .i64 (j:Int))):
  z0j std E34.T env h new false [] [] (.indexAddr 26 (.tmp a) (.tmp c))=some ⟨std.cmp .geq (j:Int) 0&&std.cmp .lss (j:Int) (std.ofNat n), .ptr L j 0,[]⟩:=by
 have e:(AV.ptr L j 0)= .ptr L (0+j) 0:=by rw [Nat.zero_add]
 rw [e]
 simp only [z0j,w3r,z0n,ha,hb]
 rfl
theorem w4x {env:List (Nat×AV)} {h:List AO} {t:TypeId} {a c L j:Nat} {es:List (List D)} {r:List D} (ha:z0r env a= .ptr L j 0) (hh:z0e h L= .row es) (hE:es[j]?=some r):(z1b std E34.T env h (.store t (.tmp a) (.tmp c))).ok false r []:=by
 simp only [z1b,z0n,ha,z24,hh,y3h.ok]
 exact ⟨r,hE,z7g r⟩
theorem w83 {env:List (Nat×AV)} {h:List AO} {new a c L j:Nat} {es:List (List D)} {x y:Int} (ha:z0r env a= .ptr L j 0) (hc:z0r env c= .d (.int .i64 x)) (hh:z0e h L= .row es):
  z0j std E34.T env h new false [.int .i64 y] [] (.store 3 (.tmp a) (.tmp c))=some ⟨true, .bot,[(L, .row (std.set es j [.int .i64 x]))]⟩:=by
 cases ht:E34.T 3 with
 |none=>have:=ty3; rw [ht] at this; cases this
 |some ti=>
  have h1:=ty3
  rw [ht] at h1
  simp only [Option.map_some,Option.some.injEq,Prod.mk.injEq] at h1
  obtain ⟨s,b,a',z,d,q⟩:=ti
  simp only at h1
  obtain ⟨rfl,rfl,rfl⟩:=h1
  simp only [z0j,ht,z0n,ha,hc,z2e,z1y,z1m,hh]
  rfl
theorem inB {j n:Nat} (h:j<n):(std.cmp .geq (j:Int) 0&&std.cmp .lss (j:Int) (std.ofNat n))=true:=by
 rw [y3y,z4k,Bool.and_eq_true]
 exact ⟨decide_eq_true (by omega),decide_eq_true (by show (j:Int)<(n:Int); omega)⟩
theorem w3q {env:List (Nat×AV)} {h:List AO} {t:TypeId} {a id j:Nat} {E:List (List AV)} {ra:List AV} (ha:z0r env a= .ptr id j 0) (hh:z0e h id= .arow E) (hE:E[j]?=some ra):(z1b std E34.T env h (.load t (.tmp a))).ok false [] ra:=by
 simp only [z1b,z0n,ha,z5n,z24,hh,y3h.ok,hE]
theorem w5y {N S:Int} {V:List (List D)} {n L i:Nat} (hi:i<n) {f:Nat→JM×JM} {h:List AO} (hf:x6f h 1 N n S V n f)
  {Q:AS→Prop} (hQ:Q ⟨(7, .d (.int .i64 (i:Int)))::(8, .bptr h.length 0)::y76 L n (i:Int),z0o (z0o h h.length (.box [.d .nilm, .d .nilm])) h.length (.box [.map (1+(2+4*i)), .map (1+(3+4*i))]),38⟩):
  z4v P34 0 (z2v 15 x99) (List.range (z2v 15 x99).size) ⟨y76 L n (i:Int),h,38⟩ (fun s=>∃ s',z2a 0 s s'∧Q s'):=by
 have hr:List.range (z2v 15 x99).size=[0,1,2,3,4,5]:=by kernel_rfl
 obtain ⟨w0,o0⟩:=z05 (g:=15) (p:=x99) (i:=0) (dst:=some 27) (op:= .move (.tmp 25)) (by kernel_rfl)
 obtain ⟨w1,o1⟩:=z05 (g:=15) (p:=x99) (i:=1) (dst:=some 28) (op:= .indexAddr 64 (.tmp 23) (.tmp 25)) (by kernel_rfl)
 obtain ⟨w2,o2⟩:=z05 (g:=15) (p:=x99) (i:=2) (dst:=some 29) (op:= .load 69 (.tmp 28)) (by kernel_rfl)
 obtain ⟨w3,o3⟩:=z05 (g:=15) (p:=x99) (i:=3) (dst:=some 8) (op:= .alloc 69) (by kernel_rfl)
 obtain ⟨w4,o4⟩:=z05 (g:=15) (p:=x99) (i:=4) (dst:=some 7) (op:= .assign (.tmp 27)) (by kernel_rfl)
 obtain ⟨w5,o5⟩:=z05 (g:=15) (p:=x99) (i:=5) (dst:=none) (op:= .store 69 (.tmp 8) (.tmp 29)) (by kernel_rfl)
 have harr:=hf.arr (by omega)
 rw [hr]
 refine z3w o0 (q:=false) (r:=[]) (ra:=[]) (res:=⟨true, .d (.int .i64 (i:Int)),[]⟩) trivial rfl rfl rfl ?_
 refine z3w o1 (q:=false) (r:=[]) (ra:=[]) (res:=⟨std.cmp .geq (i:Int) 0&&std.cmp .lss (i:Int) (std.ofNat n), .ptr (1+(4*n+1)) i 0,[]⟩) trivial (u0j rfl rfl) (inB hi) rfl ?_
 refine z3w o2 (q:=false) (r:=[]) (ra:=[.map (1+(2+4*i)), .map (1+(3+4*i))]) (res:=⟨true, .agg [.map (1+(2+4*i)), .map (1+(3+4*i))],[]⟩) (w3q rfl harr (y9w hi)) (w6v rfl harr) rfl rfl ?_
 refine z3w o3 (q:=false) (r:=[]) (ra:=[]) (res:=⟨true, .bptr h.length 0,[(h.length, .box [.d .nilm, .d .nilm])]⟩) trivial x90 rfl rfl ?_
 refine z3w o4 (q:=false) (r:=[]) (ra:=[]) (res:=⟨true, .d (.int .i64 (i:Int)),[]⟩) trivial rfl rfl rfl ?_
 have hM:z0e (z0o h h.length (.box [.d .nilm, .d .nilm])) h.length= .box [.d .nilm, .d .nilm]:=z0b _ _ _
 refine z3w o5 (q:=false) (r:=[]) (ra:=[]) (res:=⟨true, .bot,[(h.length, .box [.map (1+(2+4*i)), .map (1+(3+4*i))])]⟩) (x2p rfl hM) (x6x rfl rfl hM) rfl rfl ?_
 refine z1w ⟨_,z2a.env (n:=0) (s:=⟨_,_,38⟩) (z06 fun x hx=>?_),hQ⟩
 simp only [y76,List.mem_cons,List.not_mem_nil,or_false] at hx
 rcases hx with rfl|rfl|rfl|rfl|rfl|rfl<;>rfl
theorem w5w {n L i M x y:Nat} (hi:i<n) {m:JM} {es:List (List D)} {y0:Int} {h:List AO} (hM:z0e h M= .box [.map x, .map y]) (hy:z0e h y= .map (EJ.enc m)) (hL:z0e h L= .row es) (he:es[i]?=some [.int .i64 y0])
  {Q:AS→Prop} (hQ:Q ⟨y76 L n (i:Int),z0o h L (.row (es.set i [.int .i64 (m.length:Int)])),38⟩):
  z4v P34 0 (z2v 15 x6b) (List.range (z2v 15 x6b).size) ⟨(7, .d (.int .i64 (i:Int)))::(8, .bptr M 0)::y76 L n (i:Int),h,38⟩ (fun s=>∃ s',z2a 0 s s'∧Q s'):=by
 have hr:List.range (z2v 15 x6b).size=[0,1,2,3,4,5,6]:=by kernel_rfl
 obtain ⟨w0,o0⟩:=z05 (g:=15) (p:=x6b) (i:=0) (dst:=some 30) (op:= .move (.tmp 6)) (by kernel_rfl)
 obtain ⟨w1,o1⟩:=z05 (g:=15) (p:=x6b) (i:=1) (dst:=some 31) (op:= .move (.tmp 7)) (by kernel_rfl)
 obtain ⟨w2,o2⟩:=z05 (g:=15) (p:=x6b) (i:=2) (dst:=some 32) (op:= .fieldAddr 69 (.tmp 8) 1) (by kernel_rfl)
 obtain ⟨w3,o3⟩:=z05 (g:=15) (p:=x6b) (i:=3) (dst:=some 33) (op:= .load 67 (.tmp 32)) (by kernel_rfl)
 obtain ⟨w4,o4⟩:=z05 (g:=15) (p:=x6b) (i:=4) (dst:=some 34) (op:= .call ⟨.builtin .len,#[.tmp 33],#[67]⟩) (by kernel_rfl)
 obtain ⟨w5,o5⟩:=z05 (g:=15) (p:=x6b) (i:=5) (dst:=some 35) (op:= .indexAddr 26 (.tmp 30) (.tmp 31)) (by kernel_rfl)
 obtain ⟨w6,o6⟩:=z05 (g:=15) (p:=x6b) (i:=6) (dst:=none) (op:= .store 3 (.tmp 35) (.tmp 34)) (by kernel_rfl)
 rw [hr]
 refine z3w o0 (q:=false) (r:=[]) (ra:=[]) (res:=⟨true, .slice L 1 0 n (some n),[]⟩) trivial rfl rfl rfl ?_
 refine z3w o1 (q:=false) (r:=[]) (ra:=[]) (res:=⟨true, .d (.int .i64 (i:Int)),[]⟩) trivial rfl rfl rfl ?_
 refine z3w o2 (q:=false) (r:=[]) (ra:=[]) (res:=⟨true, .bptr M 1,[]⟩) trivial (by kernel_rfl) rfl rfl ?_
 refine z3w o3 (q:=false) (r:=[]) (ra:=[]) (res:=⟨true, .map y,[]⟩) (z2r rfl hM) (v5z rfl hM rfl) rfl rfl ?_
 refine z3w o4 (q:=false) (r:=[]) (ra:=[]) (res:=⟨true, .d (.int .i64 (m.length:Int)),[]⟩) (by exact trivial) (u0f rfl hy) rfl rfl ?_
 refine z3w o5 (q:=false) (r:=[]) (ra:=[]) (res:=⟨std.cmp .geq (i:Int) 0&&std.cmp .lss (i:Int) (std.ofNat n), .ptr L i 0,[]⟩) trivial (v6u rfl rfl) (inB hi) rfl ?_
 refine z3w o6 (q:=false) (r:=[.int .i64 y0]) (ra:=[]) (res:=⟨true, .bot,[(L, .row (std.set es i [.int .i64 (m.length:Int)]))]⟩) (w4x rfl hL he) (w83 rfl rfl hL) rfl rfl ?_
 exact z1w ⟨_,z2a.env (n:=0) (s:=⟨_,_,38⟩) (y4g rfl rfl rfl rfl),hQ⟩
end Go.Am
end
section
namespace Go.Am
open T11
def z6l (N J:Int) (v:Vt):Prop:=v.1<0∨v.1≥J∨v.2.1<0∨v.2.1≥N∨v.2.2<0∨v.2.2≥N∨v.2.1=v.2.2
instance (N J:Int) (v:Vt):Decidable (z6l N J v):=by unfold z6l; infer_instance
def x9u (N J S:Int):Prop:=N<1∨N>10∨J<1∨J>12∨S<0∨S>45
instance (N J S:Int):Decidable (x9u N J S):=by unfold x9u; infer_instance
def z3y (N J S:Int) (l:List Vt):Int:=if 80<l.length then 6 else if x9u N J S then 2 else if ∃ v∈l,z6l N J v then 2 else 0
theorem x51 (N J S:Int) (l:List Vt) (hl:l.length≤1000) (i:Nat) (v:Vt) (hv:l[i]?=some v):
  y16 std (N,(J,(S,(z0g l,((i:Int),())))))=some (bif decide (z6l N J v) then .inr (.inl ((2:Int),())) else .inl (N,(J,(S,(z0g l,(((i+1:Nat):Int),())))))):=by
 have hi:=(List.getElem?_eq_some_iff.1 hv).1
 have hw:=z3h (i:=i) (by omega)
 have hlt:(i:Int)<l.length:=by omega
 have h0:(0:Int)≤i:=by omega
 have gv:=z9j hv
 have hel:=z04 l
 generalize z0g l=L at gv hel⊢
 by_cases c1:v.1<0
 ·have hb:z6l N J v:= .inl c1
  simp only [y16,z2c,z2d,hel,hlt,h0,ge_iff_le,gv,z2k,z4d,z4c,z4b,c1,hb,z0i,hw,eq_self,not_true,not_false_eq_true,decide_true,decide_false,Bool.not_true,Bool.not_false,Int.reduceLT,Int.reduceLE,Int.reduceNeg,Int.reduceGT,cond_true,cond_false,Int.reduceEq,Nat.le_refl,Bool.and_true,List.drop_zero]
 by_cases c2:v.1≥J
 ·have hb:z6l N J v:= .inr (.inl c2)
  rw [ge_iff_le] at c2
  simp only [y16,z2c,z2d,hel,hlt,h0,ge_iff_le,gv,z2k,z4d,z4c,z4b,c1,c2,hb,z0i,hw,eq_self,not_true,not_false_eq_true,decide_true,decide_false,Bool.not_true,Bool.not_false,Int.reduceLT,Int.reduceLE,Int.reduceNeg,Int.reduceGT,cond_true,cond_false,Int.reduceEq,Nat.le_refl,Bool.and_true,List.drop_zero]
 by_cases c3:v.2.1<0
 ·have hb:z6l N J v:= .inr (.inr (.inl c3))
  rw [ge_iff_le] at c2
  simp only [y16,z2c,z2d,hel,hlt,h0,ge_iff_le,gv,z2k,z4d,z4c,z4b,c1,c2,c3,hb,z0i,hw,eq_self,not_true,not_false_eq_true,decide_true,decide_false,Bool.not_true,Bool.not_false,Int.reduceLT,Int.reduceLE,Int.reduceNeg,Int.reduceGT,cond_true,cond_false,Int.reduceEq,Nat.le_refl,Bool.and_true,List.drop_zero]
 by_cases c4:v.2.1≥N
 ·have hb:z6l N J v:= .inr (.inr (.inr (.inl c4)))
  rw [ge_iff_le] at c2 c4
  simp only [y16,z2c,z2d,hel,hlt,h0,ge_iff_le,gv,z2k,z4d,z4c,z4b,c1,c2,c3,c4,hb,z0i,hw,eq_self,not_true,not_false_eq_true,decide_true,decide_false,Bool.not_true,Bool.not_false,Int.reduceLT,Int.reduceLE,Int.reduceNeg,Int.reduceGT,cond_true,cond_false,Int.reduceEq,Nat.le_refl,Bool.and_true,List.drop_zero]
 by_cases c5:v.2.2<0
 ·have hb:z6l N J v:= .inr (.inr (.inr (.inr (.inl c5))))
  rw [ge_iff_le] at c2 c4
  simp only [y16,z2c,z2d,hel,hlt,h0,ge_iff_le,gv,z2k,z4d,z4c,z4b,c1,c2,c3,c4,c5,hb,z0i,hw,eq_self,not_true,not_false_eq_true,decide_true,decide_false,Bool.not_true,Bool.not_false,Int.reduceLT,Int.reduceLE,Int.reduceNeg,Int.reduceGT,cond_true,cond_false,Int.reduceEq,Nat.le_refl,Bool.and_true,List.drop_zero]
 by_cases c6:v.2.2≥N
 ·have hb:z6l N J v:= .inr (.inr (.inr (.inr (.inr (.inl c6)))))
  rw [ge_iff_le] at c2 c4 c6
  simp only [y16,z2c,z2d,hel,hlt,h0,ge_iff_le,gv,z2k,z4d,z4c,z4b,c1,c2,c3,c4,c5,c6,hb,z0i,hw,eq_self,not_true,not_false_eq_true,decide_true,decide_false,Bool.not_true,Bool.not_false,Int.reduceLT,Int.reduceLE,Int.reduceNeg,Int.reduceGT,cond_true,cond_false,Int.reduceEq,Nat.le_refl,Bool.and_true,List.drop_zero]
 by_cases c7:v.2.1=v.2.2
 ·have hb:z6l N J v:= .inr (.inr (.inr (.inr (.inr (.inr c7)))))
  rw [ge_iff_le] at c2 c4 c6
  have c7':decide (v.2.1=v.2.2)=true:=decide_eq_true c7
  rw [c7] at c3 c4
  simp only [y16,z2c,z2d,hel,hlt,h0,ge_iff_le,gv,z2k,z4d,z4c,z4b,c1,c2,c3,c4,c5,c6,c7,hb,z0i,hw,eq_self,not_true,not_false_eq_true,decide_true,decide_false,Bool.not_true,Bool.not_false,Int.reduceLT,Int.reduceLE,Int.reduceNeg,Int.reduceGT,cond_true,cond_false,Int.reduceEq,Nat.le_refl,Bool.and_true,List.drop_zero]
 have hb:¬ z6l N J v:=by unfold z6l; omega
 rw [ge_iff_le] at c2 c4 c6
 simp only [y16,z2c,z2d,hel,hlt,h0,ge_iff_le,gv,z2k,z4d,z4c,z4b,c1,c2,c3,c4,c5,c6,c7,hb,z0i,hw,eq_self,not_true,not_false_eq_true,decide_true,decide_false,Bool.not_true,Bool.not_false,Int.reduceLT,Int.reduceLE,Int.reduceNeg,Int.reduceGT,cond_true,cond_false,Int.reduceEq,Nat.le_refl,Bool.and_true,List.drop_zero]
theorem v3m (N J S:Int) (l:List Vt):G20 std (N,(J,(S,(z0g l,()))))=some (z3y N J S l,()):=by
 unfold G20 z3y
 by_cases hm:80<l.length
 ·have hm':((l.length:Nat):Int)>80:=by omega
  simp only [g20,z2c,z2d,z04,hm,hm',eq_self,not_true,not_false_eq_true,decide_true,decide_false,Bool.not_true,Bool.not_false,Int.reduceLT,Int.reduceLE,Int.reduceNeg,Int.reduceGT,cond_true,cond_false,Int.reduceEq,Nat.le_refl,Bool.and_true,List.drop_zero]
 have hm':¬ ((l.length:Nat):Int)>80:=by omega
 rw [if_neg hm]
 by_cases hB:x9u N J S
 ·rw [if_pos hB]
  have fin:∀ (o:Option (Int×(Int×(Int×(List (List D)×(Bool×Unit)))))),True:=fun _=>trivial
  by_cases c1:N<1
  ·simp only [g20,z2c,z2d,z04,hm',c1,eq_self,not_true,not_false_eq_true,decide_true,decide_false,Bool.not_true,Bool.not_false,Int.reduceLT,Int.reduceLE,Int.reduceNeg,Int.reduceGT,cond_true,cond_false,Int.reduceEq,Nat.le_refl,Bool.and_true,List.drop_zero]
  by_cases c2:N>10
  ·simp only [g20,z2c,z2d,z04,hm',c1,c2,eq_self,not_true,not_false_eq_true,decide_true,decide_false,Bool.not_true,Bool.not_false,Int.reduceLT,Int.reduceLE,Int.reduceNeg,Int.reduceGT,cond_true,cond_false,Int.reduceEq,Nat.le_refl,Bool.and_true,List.drop_zero]
  by_cases c3:J<1
  ·simp only [g20,z2c,z2d,z04,hm',c1,c2,c3,eq_self,not_true,not_false_eq_true,decide_true,decide_false,Bool.not_true,Bool.not_false,Int.reduceLT,Int.reduceLE,Int.reduceNeg,Int.reduceGT,cond_true,cond_false,Int.reduceEq,Nat.le_refl,Bool.and_true,List.drop_zero]
  by_cases c4:J>12
  ·simp only [g20,z2c,z2d,z04,hm',c1,c2,c3,c4,eq_self,not_true,not_false_eq_true,decide_true,decide_false,Bool.not_true,Bool.not_false,Int.reduceLT,Int.reduceLE,Int.reduceNeg,Int.reduceGT,cond_true,cond_false,Int.reduceEq,Nat.le_refl,Bool.and_true,List.drop_zero]
  by_cases c5:S<0
  ·simp only [g20,z2c,z2d,z04,hm',c1,c2,c3,c4,c5,eq_self,not_true,not_false_eq_true,decide_true,decide_false,Bool.not_true,Bool.not_false,Int.reduceLT,Int.reduceLE,Int.reduceNeg,Int.reduceGT,cond_true,cond_false,Int.reduceEq,Nat.le_refl,Bool.and_true,List.drop_zero]
  by_cases c6:S>45
  ·simp only [g20,z2c,z2d,z04,hm',c1,c2,c3,c4,c5,c6,eq_self,not_true,not_false_eq_true,decide_true,decide_false,Bool.not_true,Bool.not_false,Int.reduceLT,Int.reduceLE,Int.reduceNeg,Int.reduceGT,cond_true,cond_false,Int.reduceEq,Nat.le_refl,Bool.and_true,List.drop_zero]
  exact absurd hB (by unfold x9u; omega)
 rw [if_neg hB]
 have d1:¬ N<1:=fun h=>hB (.inl h)
 have d2:¬ N>10:=fun h=>hB (.inr (.inl h))
 have d3:¬ J<1:=fun h=>hB (.inr (.inr (.inl h)))
 have d4:¬ J>12:=fun h=>hB (.inr (.inr (.inr (.inl h))))
 have d5:¬ S<0:=fun h=>hB (.inr (.inr (.inr (.inr (.inl h)))))
 have d6:¬ S>45:=fun h=>hB (.inr (.inr (.inr (.inr (.inr h)))))
 have key:=z3s (b:=y16 std) l.length (fun i=>(N,(J,(S,(z0g l,((i:Int),())))))) (fun i=>decide (z6l N J (l.getD i (0,0,0)))) (fun _=> .inl ((2:Int),())) (.inr ()) (fun i hi=>by
  obtain ⟨v,hv⟩:=z1q hi
  rw [z2h hv,x51 N J S l (by omega) i v hv]
  try (cases decide (z6l N J v)<;>rfl)) (by
  have hn:¬ (l.length:Int)<l.length:=by omega
  simp only [y16,z2c,z2d,z04,hn,eq_self,not_true,not_false_eq_true,decide_true,decide_false,Bool.not_true,Bool.not_false,Int.reduceLT,Int.reduceLE,Int.reduceNeg,Int.reduceGT,cond_true,cond_false,Int.reduceEq,Nat.le_refl,Bool.and_true,List.drop_zero])
 have e:∀ {r:(Int×Unit)⊕Unit},y0g (y16 std) (N,(J,(S,(z0g l,((0:Int),())))))=some r→g20 it0 std (N,(J,(S,(z0g l,()))))=some (match r with| .inl y=>y| .inr _=>((0:Int),())):=by
  intro r hr
  simp only [g20,it0,z2c,z2d,z04,hm',d1,d2,d3,d4,d5,d6,hr,eq_self,not_true,not_false_eq_true,decide_true,decide_false,Bool.not_true,Bool.not_false,Int.reduceLT,Int.reduceLE,Int.reduceNeg,Int.reduceGT,cond_true,cond_false,Int.reduceEq,Nat.le_refl,Bool.and_true,List.drop_zero]
  rcases r with ⟨y,u⟩|u<;>rfl
 rcases key with ⟨i,h1,h2,_,h4⟩|⟨h1,h2⟩
 ·obtain ⟨v,hv⟩:=z1q (l:=l) (i:=i) (by omega)
  rw [z2h hv] at h2
  rw [e h4,if_pos ⟨v,List.mem_of_getElem? hv,of_decide_eq_true h2⟩]
 ·rw [e h2,if_neg]
  rintro ⟨v,hm2,hb⟩
  obtain ⟨i,hi⟩:=List.getElem?_of_mem hm2
  have:=h1 i (List.getElem?_eq_some_iff.1 hi).1
  rw [z2h hi,decide_eq_true hb] at this
  cases this
end Go.Am
end
section
namespace Go.Am
open T11
theorem in1 (lo hi x:Int):g52 it0 std (lo,(hi,([[.int .i64 x]],())))=some (decide (lo≤x∧x≤hi),()):=by
 have h:g52 it0 std (lo,(hi,(z2i [x],())))=_:=w4s lo hi [x] (by simp)
 have e:z2i [x]=[[.int .i64 x]]:=rfl
 rw [←e,h,Option.some.injEq,Prod.mk.injEq,decide_eq_decide]
 refine ⟨⟨fun hr=>?_,fun hr i hi=>?_⟩,rfl⟩
 ·have:=hr 0 (by simp)
  have e0:gI [x] 0=x:=rfl
  unfold y4a at this
  rw [e0] at this
  omega
 ·have:i=0:=by simp at hi; omega
  subst this
  have e0:gI [x] 0=x:=rfl
  unfold y4a
  rw [e0]
  omega
theorem in2 (lo hi x y:Int):g52 it0 std (lo,(hi,([[.int .i64 x],[.int .i64 y]],())))=some (decide ((lo≤x∧x≤hi)∧lo≤y∧y≤hi),()):=by
 have h:g52 it0 std (lo,(hi,(z2i [x,y],())))=_:=w4s lo hi [x,y] (by simp)
 have e:z2i [x,y]=[[.int .i64 x],[.int .i64 y]]:=rfl
 rw [←e,h,Option.some.injEq,Prod.mk.injEq,decide_eq_decide]
 have e0:gI [x,y] 0=x:=rfl
 have e1:gI [x,y] 1=y:=rfl
 refine ⟨⟨fun hr=>?_,fun hr i hi=>?_⟩,rfl⟩
 ·have h0:=hr 0 (by simp)
  have h1:=hr 1 (by simp)
  unfold y4a at h0 h1
  rw [e0] at h0
  rw [e1] at h1
  omega
 ·have hi:i<2:=by simpa using hi
  have hs:i=0∨i=1:=by omega
  unfold y4a
  rcases hs with rfl|rfl
  ·rw [e0]; omega
  ·rw [e1]; omega
theorem x5z {N J:Int} (S:Int) (hN:1≤N∧N≤10) (hJ:1≤J∧J≤12) (l:List Vt) (hl:l.length≤1000) (i:Nat) (v:Vt) (hv:l[i]?=some v):
  y5q it0 std (N,(J,(S,(z0g l,(z0g l,((l.length:Int),((i:Int),())))))))=some (bif decide (z6l N J v) then .inr (.inl (N,(J,(S,(z0g l,((i:Int),())))))) else .inl (N,(J,(S,(z0g l,(z0g l,((l.length:Int),(((i+1:Nat):Int),())))))))):=by
 have hi:=(List.getElem?_eq_some_iff.1 hv).1
 have hw:=z3h (i:=i) (by omega)
 have hlt:(i:Int)<l.length:=by omega
 have h0:(0:Int)≤i:=by omega
 have gv:=z9j hv
 have wN:IntKind.i64.wrap (N - 1)=N - 1:=y0p _ (by omega) (by omega)
 have wJ:IntKind.i64.wrap (J - 1)=J - 1:=y0p _ (by omega) (by omega)
 generalize z0g l=L at gv⊢
 by_cases c1:0≤v.1∧v.1≤J - 1
 ·by_cases c2:(0≤v.2.1∧v.2.1≤N - 1)∧0≤v.2.2∧v.2.2≤N - 1
  ·by_cases c3:v.2.1=v.2.2
   ·have hb:z6l N J v:= .inr (.inr (.inr (.inr (.inr (.inr c3)))))
    have c3':decide (v.2.1=v.2.2)=true:=decide_eq_true c3
    have h1:=in1 0 (J - 1) v.1
    have h2:=in2 0 (N - 1) v.2.1 v.2.2
    rw [decide_eq_true c1] at h1
    rw [decide_eq_true c2] at h2
    simp only [y5q,z2c,z2d,hlt,h0,ge_iff_le,gv,z2k,z4d,z4c,z4b,h1,h2,c3',hb,z7b,z0i,wN,wJ,hw,eq_self,not_true,not_false_eq_true,decide_true,decide_false,Bool.not_true,Bool.not_false,Int.reduceLT,Int.reduceLE,Int.reduceNeg,Int.reduceGT,cond_true,cond_false,Int.reduceEq,Nat.le_refl,Bool.and_true,List.drop_zero]
   ·have hb:¬ z6l N J v:=by unfold z6l; omega
    have c3':decide (v.2.1=v.2.2)=false:=decide_eq_false c3
    have h1:=in1 0 (J - 1) v.1
    have h2:=in2 0 (N - 1) v.2.1 v.2.2
    rw [decide_eq_true c1] at h1
    rw [decide_eq_true c2] at h2
    simp only [y5q,z2c,z2d,hlt,h0,ge_iff_le,gv,z2k,z4d,z4c,z4b,h1,h2,c3',hb,z7b,z0i,wN,wJ,hw,eq_self,not_true,not_false_eq_true,decide_true,decide_false,Bool.not_true,Bool.not_false,Int.reduceLT,Int.reduceLE,Int.reduceNeg,Int.reduceGT,cond_true,cond_false,Int.reduceEq,Nat.le_refl,Bool.and_true,List.drop_zero]
  ·have hb:z6l N J v:=by unfold z6l; omega
   have h1:=in1 0 (J - 1) v.1
   have h2:=in2 0 (N - 1) v.2.1 v.2.2
   rw [decide_eq_true c1] at h1
   rw [decide_eq_false c2] at h2
   simp only [y5q,z2c,z2d,hlt,h0,ge_iff_le,gv,z2k,z4d,z4c,z4b,h1,h2,hb,z7b,z0i,wN,wJ,hw,eq_self,not_true,not_false_eq_true,decide_true,decide_false,Bool.not_true,Bool.not_false,Int.reduceLT,Int.reduceLE,Int.reduceNeg,Int.reduceGT,cond_true,cond_false,Int.reduceEq,Nat.le_refl,Bool.and_true,List.drop_zero]
 ·have hb:z6l N J v:=by unfold z6l; omega
  have h1:=in1 0 (J - 1) v.1
  rw [decide_eq_false c1] at h1
  simp only [y5q,z2c,z2d,hlt,h0,ge_iff_le,gv,z2k,z4d,z4c,z4b,h1,hb,z7b,z0i,wN,wJ,hw,eq_self,not_true,not_false_eq_true,decide_true,decide_false,Bool.not_true,Bool.not_false,Int.reduceLT,Int.reduceLE,Int.reduceNeg,Int.reduceGT,cond_true,cond_false,Int.reduceEq,Nat.le_refl,Bool.and_true,List.drop_zero]
theorem x4m (N J S:Int) (l:List Vt):G19 std (N,(J,(S,(z0g l,()))))=some (z3y N J S l,()):=by
 unfold G19 z3y
 by_cases hm:80<l.length
 ·have hm':((l.length:Nat):Int)>80:=by omega
  simp only [g19,z2c,z2d,z04,hm,hm',eq_self,not_true,not_false_eq_true,decide_true,decide_false,Bool.not_true,Bool.not_false,Int.reduceLT,Int.reduceLE,Int.reduceNeg,Int.reduceGT,cond_true,cond_false,Int.reduceEq,Nat.le_refl,Bool.and_true,List.drop_zero]
 have hm':¬ ((l.length:Nat):Int)>80:=by omega
 rw [if_neg hm]
 have i1:=in1 1 10 N
 have i2:=in1 1 12 J
 have i3:=in1 0 45 S
 by_cases d1:1≤N∧N≤10
 rotate_left
 ·rw [decide_eq_false d1] at i1
  rw [if_pos (by unfold x9u; omega)]
  simp only [g19,z2c,z2d,z04,hm',i1,eq_self,not_true,not_false_eq_true,decide_true,decide_false,Bool.not_true,Bool.not_false,Int.reduceLT,Int.reduceLE,Int.reduceNeg,Int.reduceGT,cond_true,cond_false,Int.reduceEq,Nat.le_refl,Bool.and_true,List.drop_zero]
 rw [decide_eq_true d1] at i1
 by_cases d2:1≤J∧J≤12
 rotate_left
 ·rw [decide_eq_false d2] at i2
  rw [if_pos (by unfold x9u; omega)]
  simp only [g19,z2c,z2d,z04,hm',i1,i2,eq_self,not_true,not_false_eq_true,decide_true,decide_false,Bool.not_true,Bool.not_false,Int.reduceLT,Int.reduceLE,Int.reduceNeg,Int.reduceGT,cond_true,cond_false,Int.reduceEq,Nat.le_refl,Bool.and_true,List.drop_zero]
 rw [decide_eq_true d2] at i2
 by_cases d3:0≤S∧S≤45
 rotate_left
 ·rw [decide_eq_false d3] at i3
  rw [if_pos (by unfold x9u; omega)]
  simp only [g19,z2c,z2d,z04,hm',i1,i2,i3,eq_self,not_true,not_false_eq_true,decide_true,decide_false,Bool.not_true,Bool.not_false,Int.reduceLT,Int.reduceLE,Int.reduceNeg,Int.reduceGT,cond_true,cond_false,Int.reduceEq,Nat.le_refl,Bool.and_true,List.drop_zero]
 rw [decide_eq_true d3] at i3
 rw [if_neg (by unfold x9u; omega)]
 have key:=z3s (b:=y5q it0 std) l.length (fun i=>(N,(J,(S,(z0g l,(z0g l,((l.length:Int),((i:Int),())))))))) (fun i=>decide (z6l N J (l.getD i (0,0,0)))) (fun i=> .inl (N,(J,(S,(z0g l,((i:Int),())))))) (.inr (N,(J,(S,(z0g l,()))))) (fun i hi=>by
  obtain ⟨v,hv⟩:=z1q hi
  rw [z2h hv,x5z S d1 d2 l (by omega) i v hv]
  try (cases decide (z6l N J v)<;>rfl)) (by
  have hn:¬ (l.length:Int)<l.length:=by omega
  simp only [y5q,z2c,z2d,z04,hn,eq_self,not_true,not_false_eq_true,decide_true,decide_false,Bool.not_true,Bool.not_false,Int.reduceLT,Int.reduceLE,Int.reduceNeg,Int.reduceGT,cond_true,cond_false,Int.reduceEq,Nat.le_refl,Bool.and_true,List.drop_zero])
 rcases key with ⟨i,h1,h2,_,h4⟩|⟨h1,h2⟩
 ·obtain ⟨v,hv⟩:=z1q (l:=l) (i:=i) (by omega)
  rw [z2h hv] at h2
  rw [if_pos ⟨v,List.mem_of_getElem? hv,of_decide_eq_true h2⟩]
  have h4:it0 _ _ (y5q it0 std) (N,(J,(S,(z0g l,(z0g l,((l.length:Int),((0:Int),())))))))=_:=h4
  have hi0:(i:Int)≥0:=by omega
  simp only [g19,z2c,z2d,z04,hm',i1,i2,i3,h4,hi0,eq_self,not_true,not_false_eq_true,decide_true,decide_false,Bool.not_true,Bool.not_false,Int.reduceLT,Int.reduceLE,Int.reduceNeg,Int.reduceGT,cond_true,cond_false,Int.reduceEq,Nat.le_refl,Bool.and_true,List.drop_zero]
 ·rw [if_neg]
  ·have h2:it0 _ _ (y5q it0 std) (N,(J,(S,(z0g l,(z0g l,((l.length:Int),((0:Int),())))))))=_:=h2
   simp only [g19,z2c,z2d,z04,hm',i1,i2,i3,h2,eq_self,not_true,not_false_eq_true,decide_true,decide_false,Bool.not_true,Bool.not_false,Int.reduceLT,Int.reduceLE,Int.reduceNeg,Int.reduceGT,cond_true,cond_false,Int.reduceEq,Nat.le_refl,Bool.and_true,List.drop_zero]
   try decide
  ·rintro ⟨v,hm2,hb⟩
   obtain ⟨i,hi⟩:=List.getElem?_of_mem hm2
   have:=h1 i (List.getElem?_eq_some_iff.1 hi).1
   rw [z2h hi,decide_eq_true hb] at this
   cases this
end Go.Am
end
section
namespace Go.Am
open T11
structure v9n (w:List Int) (n:Nat) (f:Nat→Nat→Bool) (l:List Int) (cur:List Nat):Prop where
 len:l.length=n
 nd:cur.Nodup
 lt:∀ x∈cur,x<n
 sup:∀ a b,f a b=true→a<n∧b<n
 irr:∀ a,f a a=false
 cnt:∀ x,x<n→(cnt n (f x):Int)+(if x∈cur then gI l x else 0)=gI w x
 lan:Lan (cur.map fun x=>gI l x)
 both:∀ a b,a∈cur→b∈cur→f a b=false
 one:∀ a b,a<n→b<n→a≠b→¬ (a∈cur∧b∈cur)→f a b=!f b a
def z8n (l:List Int) (rest0:List Nat):List Nat:=(y7p (key l) (toI rest0)).map Int.toNat
theorem x7g (l:List Int) (rest0:List Nat):y7p (key l) (toI rest0)=toI (z8n l rest0):=by
 have hp:=y53 (key l) (toI rest0)
 rw [z8n]
 have hge:∀ x∈y7p (key l) (toI rest0),∃ i:Nat,x=(i:Int):=fun x hx=>by
  have:=hp.mem_iff.1 hx
  rw [toI,List.mem_map] at this
  obtain ⟨i,_,rfl⟩:=this
  exact ⟨i,rfl⟩
 generalize y7p (key l) (toI rest0)=S at hge⊢
 rw [toI,List.map_map]
 refine (List.map_id _).symm.trans (List.map_congr_left fun x hx=>?_)
 obtain ⟨i,rfl⟩:=hge x hx
 simp
theorem x42 (l:List Int) (rest0:List Nat):(z8n l rest0).Perm rest0:=by
 have hp:=(y53 (key l) (toI rest0)).map Int.toNat
 have e:(toI rest0).map Int.toNat=rest0:=by
  rw [toI,List.map_map]
  exact (List.map_congr_left fun a _=>by simp).trans (List.map_id _)
 rw [e] at hp
 exact hp
theorem w02 (l:List Int) (rest0:List Nat):((z8n l rest0).map fun x=>gI l x).Pairwise (· ≤ ·):=by
 have hpw:=w0t (key l) (toI rest0)
 rw [x7g,toI,List.pairwise_map] at hpw
 rw [List.pairwise_map]
 exact hpw.imp fun {a b} hab=>by
  simp only [key,Int.toNat_natCast] at hab
  exact hab
theorem w6o {l:List Nat} {g h:Nat→Int} {v:Nat} (hh:∀ q,q<l.length→h (at_ l q)=if v≤q then g (at_ l q) - 1 else g (at_ l q)):
  l.map h=(l.map g).take v++((l.map g).drop v).map (· - 1):=by
 apply List.ext_getElem?
 intro q
 rw [List.getElem?_append,List.length_take,List.length_map]
 by_cases hq:q<l.length
 ·have hx:l[q]?=some (at_ l q):=by rw [at_,List.getD_eq_getElem?_getD,List.getElem?_eq_getElem hq]; rfl
  rw [List.getElem?_map,hx,Option.map_some,hh q hq]
  by_cases c:v≤q
  ·rw [if_pos c,if_neg (by omega),List.getElem?_map,List.getElem?_drop,show v+(q - min v l.length)=q by omega,List.getElem?_map,hx]; rfl
  ·rw [if_neg c,if_pos (by omega),List.getElem?_take_of_lt (by omega),List.getElem?_map,hx]; rfl
 ·rw [List.getElem?_eq_none (by simp; omega)]
  by_cases c:q<min v l.length
  ·omega
  ·rw [if_neg c,List.getElem?_eq_none (by simp; omega)]
theorem v9n.step {w:List Int} {n s:Nat} {f:Nat→Nat→Bool} {l:List Int} {rest0:List Nat} (h:v9n w n f l (s::rest0)):
  v9n w n (stG s (gI l s).toNat (z8n l rest0) (f,l) (z8n l rest0).length).1 (stG s (gI l s).toNat (z8n l rest0) (f,l) (z8n l rest0).length).2 (z8n l rest0)∧(gI l s).toNat≤(z8n l rest0).length∧0≤gI l s:=by
 have hp:=x42 l rest0
 have hpw:=w02 l rest0
 have hnd:=List.nodup_cons.1 h.nd
 have hsn:=h.lt s (List.mem_cons_self ..)
 have hsr:s∉z8n l rest0:=fun hm=>hnd.1 (hp.mem_iff.1 hm)
 have hrn:(z8n l rest0).Nodup:=hp.nodup_iff.2 hnd.2
 have hrl:∀ x∈z8n l rest0,x<n:=fun x hx=>h.lt x (List.mem_cons_of_mem _ (hp.mem_iff.1 hx))
 have hlan:Lan (gI l s::(z8n l rest0).map fun x=>gI l x):=by
  have:=h.lan
  rw [List.map_cons] at this
  exact this.perm ((hp.symm.map _).cons _)
 obtain ⟨v0,v1,v2⟩:=hlan.step hpw
 rw [List.length_map] at v1
 have hv:(gI l s).toNat≤(z8n l rest0).length:=by omega
 refine ⟨?_,hv,v0⟩
 have hst:=w84 (f0:=f) (l0:=l) (v:=(gI l s).toNat) hsn hsr hrn hrl h.len h.sup (fun x hx=>by
  have hx':=List.mem_cons_of_mem s (hp.mem_iff.1 hx)
  exact ⟨h.both s x (List.mem_cons_self ..) hx',h.both x s hx' (List.mem_cons_self ..)⟩) (z8n l rest0).length (Nat.le_refl _)
 generalize hrr:z8n l rest0=rest at*
 generalize (stG s (gI l s).toNat rest (f,l) rest.length).1=f' at hst⊢
 generalize (stG s (gI l s).toNat rest (f,l) rest.length).2=l' at hst⊢
 have hmem:∀ x,x∈s::rest0↔x=s∨x∈rest:=fun x=>by rw [List.mem_cons,hp.mem_iff]
 have hleft:∀ q,q<rest.length→gI l' (at_ rest q)=if (gI l s).toNat≤q then gI l (at_ rest q) - 1 else gI l (at_ rest q):=by
  intro q hq
  rw [hst.left _ (hrl _ (x00 hq))]
  by_cases c:(gI l s).toNat≤q
  ·rw [if_pos c,if_pos ⟨q,List.mem_range.2 hq,c,rfl⟩]
  ·rw [if_neg c,if_neg]
   rintro ⟨r,hr,h1,h2⟩
   have:=x4f hrn (List.mem_range.1 hr) hq h2
   omega
 have hstay:∀ x,x<n→x∉rest→gI l' x=gI l x:=by
  intro x hx hnx
  rw [hst.left x hx,if_neg]
  rintro ⟨r,hr,_,h2⟩
  exact hnx (h2▸x00 (List.mem_range.1 hr))
 refine ⟨hst.len,hrn,hrl,hst.sup,fun a=>?_,fun x hx=>?_,?_,fun a b ha hb=>?_,fun a b ha hb hne hno=>?_⟩
 ·rw [hst.same a a,h.irr a]
  ·by_cases e:a=s
   ·subst e; exact .inr hsr
   ·exact .inl e
  ·by_cases e:a=s
   ·subst e; exact .inr hsr
   ·exact .inl e
 ·by_cases e:x=s
  ·subst e
   have h1:=h.cnt x hx
   rw [if_pos (List.mem_cons_self ..)] at h1
   rw [if_neg hsr,hst.own]
   omega
  ·have h1:=h.cnt x hx
   have h2:=hst.oth x hx e
   by_cases c:x∈rest
   ·rw [if_pos ((hmem x).2 (.inr c))] at h1
    rw [if_pos c]; omega
   ·rw [if_neg (fun hm=>by rcases (hmem x).1 hm with hm|hm; exact e hm; exact c hm)] at h1
    have h3:=hstay x hx c
    rw [if_neg c]; omega
 ·rw [w6o hleft]; exact v2
 ·have ha':a≠s:=fun e=>hsr (e▸ha)
  have hb':b≠s:=fun e=>hsr (e▸hb)
  rw [hst.same a b (.inl ha') (.inl hb')]
  exact h.both a b ((hmem a).2 (.inr ha)) ((hmem b).2 (.inr hb))
 ·by_cases ea:a=s
  ·subst ea
   by_cases cb:b∈rest
   ·obtain ⟨q,hq,rfl⟩:=v28 cb
    obtain ⟨d1,d2⟩:=hst.done q hq
    rw [d1,d2]
    by_cases c:q<(gI l a).toNat
    ·rw [decide_eq_true ⟨hq,c⟩,decide_eq_false (by omega)]; rfl
    ·rw [decide_eq_false (by omega),decide_eq_true ⟨hq,by omega⟩]; rfl
   ·rw [hst.same a b (.inr cb) (.inl (Ne.symm hne)),hst.same b a (.inl (Ne.symm hne)) (.inr cb)]
    refine h.one a b ha hb hne fun hm=>?_
    rcases (hmem b).1 hm.2 with e|e
    ·exact hne e.symm
    ·exact cb e
  ·by_cases eb:b=s
   ·subst eb
    by_cases ca:a∈rest
    ·obtain ⟨q,hq,rfl⟩:=v28 ca
     obtain ⟨d1,d2⟩:=hst.done q hq
     rw [d1,d2]
     by_cases c:q<(gI l b).toNat
     ·rw [decide_eq_false (by omega),decide_eq_true ⟨hq,c⟩]; rfl
     ·rw [decide_eq_true ⟨hq,by omega⟩,decide_eq_false (by omega)]; rfl
    ·rw [hst.same a b (.inl ea) (.inr ca),hst.same b a (.inr ca) (.inl ea)]
     refine h.one a b ha hb hne fun hm=>?_
     rcases (hmem a).1 hm.1 with e|e
     ·exact ea e
     ·exact ca e
   ·rw [hst.same a b (.inl ea) (.inl eb),hst.same b a (.inl eb) (.inl ea)]
    refine h.one a b ha hb hne fun hm=>hno ⟨?_,?_⟩
    ·rcases (hmem a).1 hm.1 with e|e
     ·exact absurd e ea
     ·exact e
    ·rcases (hmem b).1 hm.2 with e|e
     ·exact absurd e eb
     ·exact e
end Go.Am
end
section
namespace Go.Am
open T11
variable {fl:List Int→Bool}
def v7y (P:Int→Bool):List Int→Nat
 |[]=>0
 |x::l=>bif P x then 0 else v7y P l+1
def w8q (d:List (List Int)) (i:Nat) (l:List Int):List Int:=l.take (v7y (fun x=>bt d i x.toNat) l)++(i:Int)::l.drop (v7y (fun x=>bt d i x.toNat) l)
end Go.Am
end
section
namespace Go.Am
theorem v36 {i j:It} (h:i.Le j):∀ s,le (g21 i std s) (g21 j std s):=fun _=>z03 (le_refl _) (z2w (h _ _ _ _ _ (fun _=>le_refl _)) (fun _=>le_refl _) (fun _=>le_refl _))
theorem w9x {i j:It} (h:i.Le j):∀ s,le (x0y i std s) (x0y j std s):=fun _=>z2m (z03 (z0c (z0c (z0c (z0c (z0f (v36 h _) (fun _=>le_refl _)))))) (le_refl _))
theorem u0e {i j:It} (h:i.Le j):∀ s,le (g22 i std s) (g22 j std s):=fun _=>z03 (le_refl _) (z2w (h _ _ _ _ _ (w9x h)) (fun _=>le_refl _) (fun _=>le_refl _))
theorem u0c {i j:It} (h:i.Le j):∀ s,le (g38 i std s) (g38 j std s):=fun _=>z2w (h _ _ _ _ _ (fun _=>le_refl _)) (fun _=>le_refl _) (fun _=>le_refl _)
theorem v34 {i j:It} (h:i.Le j):∀ s,le (g40 i std s) (g40 j std s):=fun _=>z2w (h _ _ _ _ _ (fun _=>le_refl _)) (fun _=>le_refl _) (fun _=>le_refl _)
theorem w9r {i j:It} (h:i.Le j):∀ s,le (x0x i std s) (x0x j std s):=fun _=>z2m (z03 (z0f (v34 h _) (fun _=>z0f (v34 h _) (fun _=>le_refl _))) (le_refl _))
theorem w9s {i j:It} (h:i.Le j):∀ s,le (y5p i std s) (y5p j std s):=fun _=>z2m (z03 (z2w (z2m (z0f (v34 h _) (fun _=>z03 (le_refl _) (z2w (h _ _ _ _ _ (w9r h)) (fun _=>le_refl _) (fun _=>le_refl _))))) (fun _=>le_refl _) (fun _=>le_refl _)) (le_refl _))
theorem w9t {i j:It} (h:i.Le j):∀ s,le (y8r i std s) (y8r j std s):=fun _=>z2m (z03 (z0c (z0c (z0f (u0c h _) (fun _=>le_refl _)))) (le_refl _))
theorem v35 {i j:It} (h:i.Le j):∀ s,le (g27 i std s) (g27 j std s):=fun _=>z0f (le_refl _) (fun _=>z03 (le_refl _) (z2w (h _ _ _ _ _ (w9t h)) (fun _=>le_refl _) (fun _=>z0f (le_refl _) (fun _=>z2w (h _ _ _ _ _ (w9s h)) (fun _=>le_refl _) (fun _=>le_refl _)))))
theorem mg33 {i j:It} (h:i.Le j):∀ s,le (g33 i std s) (g33 j std s):=fun _=>z0f (v35 h _) (fun _=>z03 (z0f (v35 h _) (fun _=>le_refl _)) (z0f (h _ _ _ _ _ (fun _=>le_refl _)) (fun _=>le_refl _)))
theorem w9v {i j:It} (h:i.Le j):∀ s,le (w74 i std s) (w74 j std s):=fun _=>z2m (z03 (z0c (z0c (z0c (z0c (z0f (v34 h _) (fun _=>le_refl _)))))) (le_refl _))
theorem w9w {i j:It} (h:i.Le j):∀ s,le (w75 i std s) (w75 j std s):=fun _=>z2m (z03 (z2w (z2m (z0f (le_refl _) (fun _=>z03 (le_refl _) (z2w (h _ _ _ _ _ (fun _=>le_refl _)) (fun _=>le_refl _) (fun _=>le_refl _))))) (fun _=>le_refl _) (fun _=>le_refl _)) (le_refl _))
theorem mg25 {i j:It} (h:i.Le j):∀ s,le (g25 i std s) (g25 j std s):=fun _=>z0f (v35 h _) (fun _=>z03 (z0f (v35 h _) (fun _=>le_refl _)) (z03 (le_refl _) (z2w (h _ _ _ _ _ (w9w h)) (fun _=>le_refl _) (fun _=>z0f (le_refl _) (fun _=>z2w (h _ _ _ _ _ (w9v h)) (fun _=>le_refl _) (fun _=>le_refl _))))))
theorem u0b {i j:It} (h:i.Le j):∀ s,le (g62 i std s) (g62 j std s):=fun _=>z0f (le_refl _) (fun _=>z03 (le_refl _) (z2w (h _ _ _ _ _ (fun _=>le_refl _)) (fun _=>le_refl _) (fun _=>le_refl _)))
theorem mg63 {i j:It} (h:i.Le j):∀ s,le (g63 i std s) (g63 j std s):=fun _=>z0f (h _ _ _ _ _ (fun _=>le_refl _)) (fun _=>le_refl _)
theorem mg29 {i j:It} (h:i.Le j):∀ s,le (g29 i std s) (g29 j std s):=fun _=>z0f (u0b h _) (fun _=>z03 (z0f (u0b h _) (fun _=>le_refl _)) (z0f (u0c h _) (fun _=>z03 (le_refl _) (z0f (mg63 h _) (fun _=>le_refl _)))))
theorem mg52 {i j:It} (h:i.Le j):∀ s,le (g52 i std s) (g52 j std s):=fun _=>z2w (h _ _ _ _ _ (fun _=>le_refl _)) (fun _=>le_refl _) (fun _=>le_refl _)
theorem v33 {i j:It} (h:i.Le j):∀ s,le (g56 i std s) (g56 j std s):=fun _=>z2w (h _ _ _ _ _ (fun _=>le_refl _)) (fun _=>le_refl _) (fun _=>le_refl _)
theorem mg70 {i j:It} (h:i.Le j):∀ s,le (g70 i std s) (g70 j std s):=fun _=>z0f (h _ _ _ _ _ (fun _=>le_refl _)) (fun _=>le_refl _)
theorem v5q {i j:It} (h:i.Le j):∀ s,le (g61 i std s) (g61 j std s):=fun _=>z0f (le_refl _) (fun _=>z2w (z2m (z03 (le_refl _) (z0f (mg52 h _) (fun _=>le_refl _)))) (fun _=>le_refl _) (fun _=>le_refl _))
theorem w9l {i j:It} (h:i.Le j):∀ s,le (w7y i std s) (w7y j std s):=fun _=>z2m (z03 (z2w (h _ _ _ _ _ (fun _=>le_refl _)) (fun _=>le_refl _) (fun _=>le_refl _)) (le_refl _))
theorem w9m {i j:It} (h:i.Le j):∀ s,le (w7z i std s) (w7z j std s):=fun _=>z2m (z03 (z0c (z0c (z0f (v33 h _) (fun _=>z03 (le_refl _) (z0f (h _ _ _ _ _ (fun _=>le_refl _)) (fun _=>le_refl _)))))) (le_refl _))
theorem v5s {i j:It} (h:i.Le j):∀ s,le (g54 i std s) (g54 j std s):=fun _=>z0f (le_refl _) (fun _=>z03 (le_refl _) (z2w (h _ _ _ _ _ (w9m h)) (fun _=>le_refl _) (fun _=>z0f (le_refl _) (fun _=>z2w (h _ _ _ _ _ (fun _=>le_refl _)) (fun _=>le_refl _) (fun _=>z0f (le_refl _) (fun _=>z0c (z2w (h _ _ _ _ _ (w9l h)) (fun _=>le_refl _) (fun _=>le_refl _))))))))
theorem w9p {i j:It} (h:i.Le j):∀ s,le (w71 i std s) (w71 j std s):=fun _=>z2m (z03 (z0c (z0c (z0c (z0f (mg70 h _) (fun _=>le_refl _))))) (le_refl _))
theorem v5t {i j:It} (h:i.Le j):∀ s,le (g35 i std s) (g35 j std s):=fun _=>z2w (v5s h _) (fun _=>le_refl _) (fun _=>z0f (le_refl _) (fun _=>z03 (le_refl _) (z0c (z0c (z0c (z0c (z0c (z0f (h _ _ _ _ _ (w9p h)) (fun _=>le_refl _)))))))))
theorem mg36 {i j:It} (h:i.Le j):∀ s,le (g36 i std s) (g36 j std s):=fun _=>z0f (v5t h _) (fun _=>z03 (le_refl _) (z0c (z0c (z0c (z0f (h _ _ _ _ _ (fun _=>le_refl _)) (fun _=>le_refl _))))))
theorem w6i {i j:It} (h:i.Le j):∀ s,le (x9m i std s) (x9m j std s):=fun _=>z2m (z03 (z0c (z0c (z0c (z0f (h _ _ _ _ _ (fun _=>le_refl _)) (fun _=>le_refl _))))) (le_refl _))
theorem v5l {i j:It} (h:i.Le j):∀ s,le (v39 i std s) (v39 j std s):=fun _=>z0c (z0c (z0c (z0f (h _ _ _ _ _ (w6i h)) (fun _=>le_refl _))))
theorem w6m {i j:It} (h:i.Le j):∀ s,le (x9q i std s) (x9q j std s):=fun _=>z2m (z03 (z0c (z0c (z0c (z0f (v5l h _) (fun _=>le_refl _))))) (le_refl _))
theorem v5o {i j:It} (h:i.Le j):∀ s,le (v4c i std s) (v4c j std s):=fun _=>z0c (z0c (z0c (z0f (h _ _ _ _ _ (w6m h)) (fun _=>le_refl _))))
theorem w9h {i j:It} (h:i.Le j):∀ s,le (v0m i std s) (v0m j std s):=fun _=>z0f (le_refl _) (fun _=>z0c (z0c (z0c (z0f (v5o h _) (fun _=>le_refl _)))))
theorem w6h {i j:It} (h:i.Le j):∀ s,le (x9l i std s) (x9l j std s):=fun _=>z2m (z03 (z0c (z0c (z0f (h _ _ _ _ _ (fun _=>le_refl _)) (fun _=>le_refl _)))) (le_refl _))
theorem v5k {i j:It} (h:i.Le j):∀ s,le (v38 i std s) (v38 j std s):=fun _=>z0c (z0c (z0f (h _ _ _ _ _ (w6h h)) (fun _=>le_refl _)))
theorem w6l {i j:It} (h:i.Le j):∀ s,le (x9p i std s) (x9p j std s):=fun _=>z2m (z03 (z0c (z0c (z0f (v5k h _) (fun _=>le_refl _)))) (le_refl _))
theorem v5n {i j:It} (h:i.Le j):∀ s,le (v4b i std s) (v4b j std s):=fun _=>z0c (z0c (z0f (h _ _ _ _ _ (w6l h)) (fun _=>le_refl _)))
theorem v5r {i j:It} (h:i.Le j):∀ s,le (v4e i std s) (v4e j std s):=fun _=>z0f (le_refl _) (fun _=>z0c (z0c (z0f (v5n h _) (fun _=>le_refl _))))
theorem w6n {i j:It} (h:i.Le j):∀ s,le (x9r i std s) (x9r j std s):=fun _=>z2m (z03 (z0c (z0c (z0f (h _ _ _ _ _ (fun _=>le_refl _)) (fun _=>le_refl _)))) (le_refl _))
theorem w9i {i j:It} (h:i.Le j):∀ s,le (v0o i std s) (v0o j std s):=fun _=>z0c (z0c (z0f (h _ _ _ _ _ (w6n h)) (fun _=>le_refl _)))
theorem w9j {i j:It} (h:i.Le j):∀ s,le (w7w i std s) (w7w j std s):=fun _=>z2m (z03 (z0c (z0c (z0f (h _ _ _ _ _ (fun _=>le_refl _)) (fun _=>le_refl _)))) (le_refl _))
theorem w9k {i j:It} (h:i.Le j):∀ s,le (w7x i std s) (w7x j std s):=fun _=>z2m (z03 (z0c (z0c (z0f (w9i h _) (fun _=>le_refl _)))) (le_refl _))
theorem mg86 {i j:It} (h:i.Le j):∀ s,le (g86 i std s) (g86 j std s):=fun _=>z0c (z0c (z0f (h _ _ _ _ _ (w9k h)) (fun _=>z0c (z0c (z0f (w9i h _) (fun _=>z0c (z0c (z0f (h _ _ _ _ _ (w9j h)) (fun _=>le_refl _)))))))))
theorem mg66 {i j:It} (h:i.Le j):∀ s,le (g66 i std s) (g66 j std s):=fun _=>z0c (z0c (z0f (mg86 h _) (fun _=>le_refl _)))
theorem v99 {i j:It} (h:i.Le j):∀ s,le (g71 i std s) (g71 j std s):=fun _=>z0f (h _ _ _ _ _ (fun _=>le_refl _)) (fun _=>z0c (z0c (z0f (mg66 h _) (fun _=>le_refl _))))
theorem w1k {i j:It} (h:i.Le j):∀ s,le (x2h i std s) (x2h j std s):=fun _=>z2m (z03 (z0f (h _ _ _ _ _ (fun _=>le_refl _)) (fun _=>le_refl _)) (le_refl _))
theorem w30 {i j:It} (h:i.Le j):∀ s,le (x8g i std s) (x8g j std s):=fun _=>z0f (h _ _ _ _ _ (w1k h)) (fun _=>le_refl _)
theorem w6j {i j:It} (h:i.Le j):∀ s,le (x9n i std s) (x9n j std s):=fun _=>z2m (z03 (z0f (h _ _ _ _ _ (fun _=>le_refl _)) (fun _=>le_refl _)) (le_refl _))
theorem w6k {i j:It} (h:i.Le j):∀ s,le (x9o i std s) (x9o j std s):=fun _=>z2m (z03 (z0f (w30 h _) (fun _=>le_refl _)) (le_refl _))
theorem v5m {i j:It} (h:i.Le j):∀ s,le (v4a i std s) (v4a j std s):=fun _=>z0f (h _ _ _ _ _ (w6k h)) (fun _=>z0f (w30 h _) (fun _=>z0f (h _ _ _ _ _ (w6j h)) (fun _=>le_refl _)))
theorem v5p {i j:It} (h:i.Le j):∀ s,le (v4d i std s) (v4d j std s):=fun _=>z0f (v5m h _) (fun _=>le_refl _)
theorem mg24 {i j:It} (h:i.Le j):∀ s,le (g24 i std s) (g24 j std s):=fun _=>z2w (v5s h _) (fun _=>z2w (le_refl _) (fun _=>le_refl _) (fun _=>z0f (le_refl _) (fun _=>z0c (z0c (z0c (z0c (z0c (z0f (w9h h _) (fun _=>z0c (z0c (z0f (v33 h _) (fun _=>z03 (le_refl _) (z2w (h _ _ _ _ _ (fun _=>le_refl _)) (fun _=>le_refl _) (fun _=>le_refl _)))))))))))))) (fun _=>z0f (le_refl _) (fun _=>z2w (le_refl _) (fun _=>le_refl _) (fun _=>z0f (le_refl _) (fun _=>z0c (z0c (z0c (z0c (z0c (z0f (w9h h _) (fun _=>z0c (z0c (z0f (v33 h _) (fun _=>z03 (le_refl _) (z2w (h _ _ _ _ _ (fun _=>le_refl _)) (fun _=>le_refl _) (fun _=>le_refl _)))))))))))))))
theorem v98 {i j:It} (h:i.Le j):∀ s,le (g73 i std s) (g73 j std s):=fun _=>z0f (h _ _ _ _ _ (fun _=>le_refl _)) (fun _=>z0c (z0c (z0f (v5r h _) (fun _=>le_refl _))))
theorem w9u {i j:It} (h:i.Le j):∀ s,le (w73 i std s) (w73 j std s):=fun _=>z2m (z03 (z0f (z2m (z0c (z0c (z0c (z0c (z2w (h _ _ _ _ _ (fun _=>le_refl _)) (fun _=>le_refl _) (fun _=>le_refl _))))))) (fun _=>le_refl _)) (le_refl _))
theorem mg26 {i j:It} (h:i.Le j):∀ s,le (g26 i std s) (g26 j std s):=fun _=>z2w (v5s h _) (fun _=>le_refl _) (fun _=>z0f (le_refl _) (fun _=>z03 (le_refl _) (z0c (z0f (h _ _ _ _ _ (w9u h)) (fun _=>le_refl _)))))
theorem mg72 {i j:It} (h:i.Le j):∀ s,le (g72 i std s) (g72 j std s):=fun _=>z0c (z0c (z0f (h _ _ _ _ _ (fun _=>le_refl _)) (fun _=>le_refl _)))
theorem w9o {i j:It} (h:i.Le j):∀ s,le (w70 i std s) (w70 j std s):=fun _=>z2m (z03 (z0c (z0c (z0c (z0c (z0c (z0f (z2m (z03 (z0c (z0f (v98 h _) (fun _=>le_refl _))) (le_refl _))) (fun _=>le_refl _))))))) (le_refl _))
theorem mg37 {i j:It} (h:i.Le j):∀ s,le (g37 i std s) (g37 j std s):=fun _=>z0f (v5t h _) (fun _=>z03 (le_refl _) (z0c (z0f (v99 h _) (fun _=>z0c (z0c (z0c (z0f (mg72 h _) (fun _=>z0c (z0c (z0c (z0c (z0c (z0c (z0f (h _ _ _ _ _ (w9o h)) (fun _=>le_refl _)))))))))))))))
theorem u0a {i j:It} (h:i.Le j):∀ s,le (g64 i std s) (g64 j std s):=fun _=>z0f (v99 h _) (fun _=>z0c (z0c (z0c (z0c (z0f (h _ _ _ _ _ (fun _=>le_refl _)) (fun _=>z03 (le_refl _) (z0c (z0f (v98 h _) (fun _=>le_refl _)))))))))
theorem mg31 {i j:It} (h:i.Le j):∀ s,le (g31 i std s) (g31 j std s):=fun _=>z0f (v5q h _) (fun _=>z03 (le_refl _) (z0f (u0a h _) (fun _=>le_refl _)))
theorem mg28 {i j:It} (h:i.Le j):∀ s,le (g28 i std s) (g28 j std s):=fun _=>z0f (v5q h _) (fun _=>z03 (le_refl _) (z0f (v33 h _) (fun _=>z03 (le_refl _) (z0f (h _ _ _ _ _ (fun _=>le_refl _)) (fun _=>le_refl _)))))
theorem w9n {i j:It} (h:i.Le j):∀ s,le (z8k i std s) (z8k j std s):=fun _=>z2m (z03 (z0f (z2m (z0c (z0c (z0c (z0c (z0c (z0c (z0c (z0c (z0c (z0c (z0c (z03 (le_refl _) (z0c (z0c (z0c (z0c (z0f (h _ _ _ _ _ (fun _=>le_refl _)) (fun _=>le_refl _))))))))))))))))))) (fun _=>le_refl _)) (le_refl _))
theorem mg49 {i j:It} (h:i.Le j):∀ s,le (g49 i std s) (g49 j std s):=fun _=>z0c (z0c (z0c (z0c (z0c (z0f (h _ _ _ _ _ (w9n h)) (fun _=>le_refl _))))))
theorem w9q {i j:It} (h:i.Le j):∀ s,le (w72 i std s) (w72 j std s):=fun _=>z2m (z03 (z0c (z0c (z0c (z0f (v5p h _) (fun _=>z0f (h _ _ _ _ _ (fun _=>le_refl _)) (fun _=>le_refl _)))))) (le_refl _))
theorem u0d {i j:It} (h:i.Le j):∀ s,le (g30 i std s) (g30 j std s):=fun _=>z0f (v5q h _) (fun _=>z03 (le_refl _) (z0f (u0a h _) (fun _=>z03 (le_refl _) (z0c (z0c (z0f (le_refl _) (fun _=>z0f (h _ _ _ _ _ (fun _=>le_refl _)) (fun _=>z0f (h _ _ _ _ _ (w9q h)) (fun _=>z0f (mg49 h _) (fun _=>le_refl _))))))))))
theorem mg14 {i j:It} (h:i.Le j):∀ s,le (g14 i std s) (g14 j std s):=fun _=>z0f (le_refl _) (fun _=>z0f (le_refl _) (fun _=>z0f (le_refl _) (fun _=>z0f (le_refl _) (fun _=>z0f (le_refl _) (fun _=>z0f (v5t h _) (fun _=>z0f (le_refl _) (fun _=>z0f (mg36 h _) (fun _=>z0f (le_refl _) (fun _=>z0f (mg24 h _) (fun _=>z0f (le_refl _) (fun _=>z0f (mg26 h _) (fun _=>z0f (le_refl _) (fun _=>z0f (mg37 h _) (fun _=>z0f (u0d h _) (fun _=>z0f (u0d h _) (fun _=>z0f (mg31 h _) (fun _=>z0f (mg28 h _) (fun _=>z0f (le_refl _) (fun _=>z03 (le_refl _) (z0f (mg33 h _) (fun _=>z0f (z2m (z03 (z0c (z0f (v36 h _) (fun _=>z03 (z0f (v36 h _) (fun _=>z03 (z0f (u0e h _) (fun _=>z03 (z0c (z0f (v36 h _) (fun _=>z03 (z03 (z0f (le_refl _) (fun _=>z0c (z0f (mg25 h _) (fun _=>z03 (z0f (u0e h _) (fun _=>z03 (z0f (mg29 h _) (fun _=>le_refl _)) (le_refl _))) (le_refl _))))) (le_refl _)) (le_refl _)))) (le_refl _))) (le_refl _))) (le_refl _)))) (le_refl _))) (fun _=>le_refl _))))))))))))))))))))))
end Go.Am
end
section
namespace Go.Am
theorem v0n:g14 (itN 400) std ()=some (true,()):=by kernel_rfl
theorem v3o:G14 std ()=some (true,()):=mg14 (w96 400) () _ v0n
end Go.Am
end
section
namespace Go.Am
open T11
theorem v4l {n:Int} (h:(Lit.int IntKind.u8 n).wf=true):0≤n∧n≤255:=by
 have h:IntKind.u8.min≤n∧n≤IntKind.u8.max:=by simpa [Lit.wf] using h
 have e1:IntKind.u8.min=0:=rfl
 have e2:IntKind.u8.max=255:=rfl
 omega
end Go.Am
end
section
namespace Go.Am
open T11
theorem w27 {N J S:Int} {l:List Vt} (h:z3y N J S l=0):l.length≤80∧1≤N∧N≤10∧1≤J∧J≤12∧0≤S∧S≤45∧∀ v∈l,¬ z6l N J v:=by
 unfold z3y at h
 by_cases a:80<l.length
 ·rw [if_pos a] at h; exact absurd h (by decide)
 rw [if_neg a] at h
 by_cases b:x9u N J S
 ·rw [if_pos b] at h; exact absurd h (by decide)
 rw [if_neg b] at h
 by_cases c:∃ v∈l,z6l N J v
 ·rw [if_pos c] at h; exact absurd h (by decide)
 unfold x9u at b
 exact ⟨by omega,by omega,by omega,by omega,by omega,by omega,by omega,fun v hv hb=>c ⟨v,hv,hb⟩⟩
def z3m (l:List Vt) (N J:Nat):List Int:=(List.range J).map fun (j:Nat)=>((z38 l N j:Nat):Int)
theorem y54 (l:List Vt) (N J:Nat):(z3m l N J).length=J:=by simp [z3m]
theorem x4x (l:List Vt) (N:Nat) {J j:Nat} (h:j<J):(z3m l N J)[j]?=some ((z38 l N j:Nat):Int):=by
 rw [z3m,List.getElem?_map,List.getElem?_range h]; rfl
def z20 (l:List Vt) (N:Nat) (S a b:Int) (j:Nat):Bool:=decide (((z38 l N j:Nat):Int)≤S)&&(z3k l j a b&&!z3k l j b a)
def beK (l:List Vt) (N J:Nat) (S:Int) (i k:Nat):Bool:=
 !decide (k=i)&&(decide (cnt J (z20 l N S k i)<cnt J (z20 l N S i k))||(decide (cnt J (z20 l N S i k)=cnt J (z20 l N S k i))&&decide (i<k)))
end Go.Am
end
section
namespace Go.Am
open T11
structure x58 (l:List Vt) (j:Int) (s:JM×JM):Prop where
 nd1:(s.1.map (·.1)).Nodup
 nd2:(s.2.map (·.1)).Nodup
 slip:∀ c d,z3g s.2 (c,d)=if c<d∧z3k l j c d=true∧z3k l j d c=true then some 1 else none
 said:∀ c d,z3g s.1 (c,d)=if c<d then (if z3k l j c d=true then (if z3k l j d c=true then none else some 1) else if z3k l j d c=true then some (-1) else none) else none
theorem x58.nil (j:Int):x58 [] j ([],[]) where
 nd1:=List.nodup_nil
 nd2:=List.nodup_nil
 slip:=fun c d=>by simp [z3k,z3g]
 said:=fun c d=>by simp [z3k,z3g]
theorem x2x (l:List Vt) (v:Vt) (j c d:Int):z3k (l++[v]) j c d=(z3k l j c d||decide (v=(j,c,d))):=by
 unfold z3k
 rw [←Bool.decide_or,decide_eq_decide,List.mem_append,List.mem_singleton]
 exact or_congr Iff.rfl eq_comm
theorem x58.other {l:List Vt} {j:Int} {s:JM×JM} (h:x58 l j s) {v:Vt} (hv:v.1≠j):x58 (l++[v]) j s:=by
 have e:∀ c d,z3k (l++[v]) j c d=z3k l j c d:=fun c d=>by
  rw [x2x,decide_eq_false (fun e=>hv (by rw [e])),Bool.or_false]
 exact ⟨h.nd1,h.nd2,fun c d=>by rw [e,e]; exact h.slip c d,fun c d=>by rw [e,e]; exact h.said c d⟩
theorem x58.hear {l:List Vt} {j:Int} {s:JM×JM} (h:x58 l j s) {a b:Int} (hab:a≠b):x58 (l++[(j,a,b)]) j (y0h s a b):=by
 obtain ⟨sd,sl⟩:=s
 have e:∀ c d,z3k (l++[(j,a,b)]) j c d=(z3k l j c d||(decide (a=c)&&decide (b=d))):=fun c d=>by
  rw [x2x, ←Bool.decide_and]
  congr 1
  rw [decide_eq_decide]
  simp
 obtain ⟨x,y,w,hxy,hp,hw,hx⟩:∃ x y w,x<y∧prJ a b=(x,y)∧wdJ a b=w∧((w=1∧a=x∧b=y)∨(w= -1∧a=y∧b=x)):=by
  by_cases hc:a>b
  ·exact ⟨b,a, -1,hc,by rw [prJ,if_pos hc],by rw [wdJ,if_pos hc], .inr ⟨rfl,rfl,rfl⟩⟩
  ·exact ⟨a,b,1,by omega,by rw [prJ,if_neg hc],by rw [wdJ,if_neg hc], .inl ⟨rfl,rfl,rfl⟩⟩
 have s2:=h.slip x y
 have s1:=h.said x y
 simp only [hxy,true_and,if_true] at s1 s2
 have hne:∀ c d,(c,d)≠(x,y)→c<d→z3k (l++[(j,a,b)]) j c d=z3k l j c d∧z3k (l++[(j,a,b)]) j d c=z3k l j d c:=fun c d hn hcd=>by
  rw [e,e]
  have n1:¬ (c=x∧d=y):=fun ⟨h1,h2⟩=>hn (by rw [h1,h2])
  rcases hx with ⟨_,rfl,rfl⟩|⟨_,rfl,rfl⟩
  ·have q1:(decide (a=c)&&decide (b=d))=false:=by rw [←Bool.decide_and]; exact decide_eq_false (by omega)
   have q2:(decide (a=d)&&decide (b=c))=false:=by rw [←Bool.decide_and]; exact decide_eq_false (by omega)
   rw [q1,q2,Bool.or_false,Bool.or_false]; exact ⟨rfl,rfl⟩
  ·have q1:(decide (a=c)&&decide (b=d))=false:=by rw [←Bool.decide_and]; exact decide_eq_false (by omega)
   have q2:(decide (a=d)&&decide (b=c))=false:=by rw [←Bool.decide_and]; exact decide_eq_false (by omega)
   rw [q1,q2,Bool.or_false,Bool.or_false]; exact ⟨rfl,rfl⟩
 have hnew:(w=1∧z3k (l++[(j,a,b)]) j x y=true∧z3k (l++[(j,a,b)]) j y x=z3k l j y x)∨(w= -1∧z3k (l++[(j,a,b)]) j y x=true∧z3k (l++[(j,a,b)]) j x y=z3k l j x y):=by
  rcases hx with ⟨hw,rfl,rfl⟩|⟨hw,rfl,rfl⟩
  ·refine .inl ⟨hw,by rw [e]; simp,?_⟩
   rw [e,decide_eq_false (show ¬ a=b by omega),Bool.false_and,Bool.or_false]
  ·refine .inr ⟨hw,by rw [e]; simp,?_⟩
   rw [e,decide_eq_false (show ¬ a=b by omega),Bool.false_and,Bool.or_false]
 have fin:∀ (sd' sl':JM),(sd'.map (·.1)).Nodup→(sl'.map (·.1)).Nodup→(∀ c d,(c,d)≠(x,y)→z3g sd' (c,d)=z3g sd (c,d))→(∀ c d,(c,d)≠(x,y)→z3g sl' (c,d)=z3g sl (c,d))→
   (z3g sl' (x,y)=if z3k (l++[(j,a,b)]) j x y=true∧z3k (l++[(j,a,b)]) j y x=true then some 1 else none)→
   (z3g sd' (x,y)=if z3k (l++[(j,a,b)]) j x y=true then (if z3k (l++[(j,a,b)]) j y x=true then none else some 1) else if z3k (l++[(j,a,b)]) j y x=true then some (-1) else none)→
   x58 (l++[(j,a,b)]) j (sd',sl'):=by
  intro sd' sl' n1 n2 o1 o2 v2 v1
  refine ⟨n1,n2,fun c d=>?_,fun c d=>?_⟩
  ·by_cases hq:(c,d)=(x,y)
   ·obtain ⟨rfl,rfl⟩:=Prod.mk.inj hq
    rw [v2]; simp only [hxy,true_and]
   ·rw [o2 c d hq]
    have:=h.slip c d
    by_cases hcd:c<d
    ·rw [(hne c d hq hcd).1,(hne c d hq hcd).2]; exact this
    ·rw [this,if_neg (fun q=>hcd q.1),if_neg (fun q=>hcd q.1)]
  ·by_cases hq:(c,d)=(x,y)
   ·obtain ⟨rfl,rfl⟩:=Prod.mk.inj hq
    rw [v1]; simp only [hxy,if_true]
   ·rw [o1 c d hq]
    have:=h.said c d
    by_cases hcd:c<d
    ·rw [(hne c d hq hcd).1,(hne c d hq hcd).2]; exact this
    ·rw [this,if_neg hcd,if_neg hcd]
 have nd1:(sd.map (·.1)).Nodup:=h.nd1
 have nd2:(sl.map (·.1)).Nodup:=h.nd2
 have w8q:∀ (m:JM) (v:Int) c d,(c,d)≠(x,y)→z3g (x04 m (x,y) v) (c,d)=z3g m (c,d):=fun m v c d hq=>by rw [x4h,if_neg hq]
 have putS:∀ (m:JM) (v:Int),z3g (x04 m (x,y) v) (x,y)=some v:=fun m v=>by rw [x4h,if_pos rfl]
 have delO:∀ (m:JM),(m.map (·.1)).Nodup→∀ c d,(c,d)≠(x,y)→z3g (x55 m (x,y)) (c,d)=z3g m (c,d):=fun m hm c d hq=>by rw [y8t _ hm,if_neg hq]
 have delS:∀ (m:JM),(m.map (·.1)).Nodup→z3g (x55 m (x,y)) (x,y)=none:=fun m hm=>by rw [y8t _ hm,if_pos rfl]
 have z0:¬ (0:Int)>0:=by decide
 have z1:(1:Int)>0:=by decide
 unfold y0h
 simp only [hp,hw]
 cases hA:z3k l j x y<;>cases hB:z3k l j y x<;>rw [hA,hB] at s1 s2<;>simp only [Bool.false_eq_true,if_true,if_false,and_true,and_false,and_self,true_and,false_and] at s1 s2
 ·
  simp only [s1,s2,Option.getD_none,z0,if_false]
  refine fin _ _ (z7w nd1 _ _) nd2 (w8q sd w) (fun _ _ _=>rfl) ?_ ?_
  ·rw [s2]
   rcases hnew with ⟨_,h1,h2⟩|⟨_,h1,h2⟩
   ·rw [h1,h2,hB]; simp
   ·rw [h1,h2,hA]; simp
  ·rw [putS]
   rcases hnew with ⟨rfl,h1,h2⟩|⟨rfl,h1,h2⟩
   ·rw [h1,h2,hB]; simp
   ·rw [h1,h2,hA]; simp
 ·
  simp only [s1,s2,Option.getD_none,z0,if_false]
  rcases hnew with ⟨rfl,h1,h2⟩|⟨rfl,h1,h2⟩
  ·rw [if_pos (by decide)]
   refine fin _ _ ((nd1.sublist (y8u _ _))) (z7w nd2 _ _) (delO sd nd1) (w8q sl 1) ?_ ?_
   ·rw [putS,h1,h2,hB]; simp
   ·rw [delS sd nd1,h1,h2,hB]; simp
  ·rw [if_neg (by decide)]
   refine fin _ _ (z7w nd1 _ _) nd2 (w8q sd _) (fun _ _ _=>rfl) ?_ ?_
   ·rw [s2,h1,h2,hA]; simp
   ·rw [putS,h1,h2,hA]; simp
 ·simp only [s1,s2,Option.getD_none,z0,if_false]
  rcases hnew with ⟨rfl,h1,h2⟩|⟨rfl,h1,h2⟩
  ·rw [if_neg (by decide)]
   refine fin _ _ (z7w nd1 _ _) nd2 (w8q sd _) (fun _ _ _=>rfl) ?_ ?_
   ·rw [s2,h1,h2,hB]; simp
   ·rw [putS,h1,h2,hB]; simp
  ·rw [if_pos (by decide)]
   refine fin _ _ ((nd1.sublist (y8u _ _))) (z7w nd2 _ _) (delO sd nd1) (w8q sl 1) ?_ ?_
   ·rw [putS,h1,h2,hA]; simp
   ·rw [delS sd nd1,h1,h2,hA]; simp
 ·
  simp only [s1,s2,Option.getD_some,z1,if_true]
  refine fin _ _ nd1 nd2 (fun _ _ _=>rfl) (fun _ _ _=>rfl) ?_ ?_
  ·rw [s2]
   rcases hnew with ⟨_,h1,h2⟩|⟨_,h1,h2⟩
   ·rw [h1,h2,hB]; simp
   ·rw [h1,h2,hA]; simp
  ·rw [s1]
   rcases hnew with ⟨_,h1,h2⟩|⟨_,h1,h2⟩
   ·rw [h1,h2,hB]; simp
   ·rw [h1,h2,hA]; simp
end Go.Am
end
section
namespace Go.Am
open T11
theorem w1t {j:Int}:∀ (r l:List Vt) (s:JM×JM),x58 l j s→(∀ v∈r,v.2.1≠v.2.2)→x58 (l++r) j (z5v j s r):=by
 intro r
 induction r with
 |nil=>intro l s h _; rw [List.append_nil]; exact h
 |cons v r ih=>
  intro l s h hv
  have e:l++v::r=(l++[v])++r:=by simp
  rw [e]
  obtain ⟨v1,v2,v3⟩:=v
  by_cases hj:v1=j
  ·subst hj
   have:=ih (l++[(v1,v2,v3)]) (y0h s v2 v3) (h.hear (hv (v1,v2,v3) (by simp))) fun v hm=>hv v (List.mem_cons_of_mem _ hm)
   have e2:z5v v1 s ((v1,v2,v3)::r)=z5v v1 (y0h s v2 v3) r:=by simp [z5v]
   rw [e2]; exact this
  ·have:=ih (l++[(v1,v2,v3)]) s (h.other hj) fun v hm=>hv v (List.mem_cons_of_mem _ hm)
   have e2:z5v j s ((v1,v2,v3)::r)=z5v j s r:=by simp [z5v,hj]
   rw [e2]; exact this
theorem y99 {l:List Vt} (h:∀ v∈l,v.2.1≠v.2.2) (j:Int):x58 l j (z1i l j):=by
 have:=w1t l [] ([],[]) (x58.nil j) h
 rwa [List.nil_append] at this
def w3v (P:Nat→Nat→Bool) (n:Nat):List (Int×Int):=(List.range n).flatMap fun i=>((List.range i).filter (P i)).map fun (k:Nat)=>((k:Int),(i:Int))
theorem y9x (P:Nat→Nat→Bool) (n:Nat):w3v P (n+1)=w3v P n++((List.range n).filter (P n)).map fun (k:Nat)=>((k:Int),(n:Int)):=by
 unfold w3v
 rw [List.range_succ,List.flatMap_append]
 simp
theorem w1e (P:Nat→Nat→Bool) (n:Nat):(w3v P n).length=sm n fun i=>cnt i (P i):=by
 induction n with
 |zero=>rfl
 |succ n ih=>rw [y9x,List.length_append,ih,List.length_map,z75,y12]
theorem x24 {P:Nat→Nat→Bool} {n:Nat} {p:Int×Int}:p∈w3v P n↔∃ k i:Nat,k<i∧i<n∧P i k=true∧p=((k:Int),(i:Int)):=by
 unfold w3v
 simp only [List.mem_flatMap,List.mem_map,List.mem_filter,List.mem_range]
 constructor
 ·rintro ⟨i,hi,k,⟨hk,hp⟩,rfl⟩; exact ⟨k,i,hk,hi,hp,rfl⟩
 ·rintro ⟨k,i,hk,hi,hp,rfl⟩; exact ⟨i,hi,k,⟨hk,hp⟩,rfl⟩
theorem x45 (P:Nat→Nat→Bool) (n:Nat):(w3v P n).Nodup:=by
 induction n with
 |zero=>exact List.nodup_nil
 |succ n ih=>
  rw [y9x,List.nodup_append]
  refine ⟨ih,?_,?_⟩
  ·have:((List.range n).filter (P n)).Nodup:=List.nodup_range.sublist List.filter_sublist
   rw [List.Nodup,List.pairwise_map]
   exact this.imp fun hne e=>hne (by have:=congrArg Prod.fst e; simp only at this; omega)
  ·intro a ha b hb e
   subst e
   obtain ⟨k,i,_,hi,_,rfl⟩:=x24.1 ha
   obtain ⟨k',_,e⟩:=List.mem_map.1 hb
   have:=congrArg Prod.snd e
   simp only at this
   omega
theorem y6l {l:List Vt} {N J:Int} (hv:∀ v∈l,¬ z6l N J v) {n:Nat} (hn:N=n) (j:Int):(z1i l j).2.length=z38 l n j:=by
 have hne:∀ v∈l,v.2.1≠v.2.2:=fun v hm e=>hv v hm (.inr (.inr (.inr (.inr (.inr (.inr e))))))
 have hi:=y99 hne j
 have hlen:((z1i l j).2.map (·.1)).length=(z1i l j).2.length:=List.length_map ..
 have hmem:∀ p:Int×Int,p∈(z1i l j).2.map (·.1)↔p∈w3v (fun i k=>z3k l j i k&&z3k l j k i) n:=fun p=>by
  obtain ⟨c,d⟩:=p
  rw [←x91,x24]
  have h2:=hi.slip c d
  constructor
  ·rintro ⟨v,hq⟩
   rw [h2] at hq
   by_cases hc:c<d∧z3k l j c d=true∧z3k l j d c=true
   ·obtain ⟨h3,h4,h5⟩:=hc
    have hb:=hv _ (of_decide_eq_true h4)
    unfold z6l at hb
    simp only at hb
    refine ⟨c.toNat,d.toNat,by omega,by omega,?_,by rw [Prod.mk.injEq]; omega⟩
    have e1:((c.toNat:Nat):Int)=c:=by omega
    have e2:((d.toNat:Nat):Int)=d:=by omega
    rw [e1,e2,h4,h5]; rfl
   ·rw [if_neg hc] at hq; cases hq
  ·rintro ⟨k,i,h3,h4,h5,e⟩
   obtain ⟨rfl,rfl⟩:=Prod.mk.inj e
   rw [Bool.and_eq_true] at h5
   exact ⟨1,by rw [h2,if_pos ⟨by omega,h5.2,h5.1⟩]⟩
 have h1:=hi.nd2.length_le_of_subset fun p hp=>(hmem p).1 hp
 have h2:=(x45 (fun i k=>z3k l j i k&&z3k l j k i) n).length_le_of_subset fun p hp=>(hmem p).2 hp
 rw [w1e] at h1 h2
 rw [hlen] at h1 h2
 unfold z38
 omega
theorem y98 {l:List Vt} (hv:∀ v∈l,v.2.1≠v.2.2) (j x y:Int) (hxy:x<y):((z3g (z1i l j).1 (x,y)).getD 0:Int)=(if (z3k l j x y&&!z3k l j y x)=true then 1 else 0) - (if (z3k l j y x&&!z3k l j x y)=true then 1 else 0):=by
 have h:=(y99 hv j).said x y
 rw [if_pos hxy] at h
 rw [h]
 cases z3k l j x y<;>cases z3k l j y x<;>rfl
def y0o (l:List Vt) (S:Int) (x y:Int):Nat→Int
 |0=>0
 |j+1=>y0o l S x y j+(if ((z1i l j).2.length:Int)≤S then (z3g (z1i l j).1 (x,y)).getD 0 else 0)
theorem w49 {l:List Vt} {N J:Int} (hv:∀ v∈l,¬ z6l N J v) {n:Nat} (hn:N=n) (S x y:Int) (hxy:x<y) (m:Nat):
  y0o l S x y m=((cnt m (z20 l n S x y):Nat):Int) - ((cnt m (z20 l n S y x):Nat):Int):=by
 have hne:∀ v∈l,v.2.1≠v.2.2:=fun v hm e=>hv v hm (.inr (.inr (.inr (.inr (.inr (.inr e))))))
 induction m with
 |zero=>rfl
 |succ m ih=>
  rw [y0o,ih,y6l hv hn,y98 hne _ _ _ hxy,y8k,y8k]
  have e1:z20 l n S x y m=(decide (((z38 l n m:Nat):Int)≤S)&&(z3k l m x y&&!z3k l m y x)):=rfl
  have e2:z20 l n S y x m=(decide (((z38 l n m:Nat):Int)≤S)&&(z3k l m y x&&!z3k l m x y)):=rfl
  rw [e1,e2]
  by_cases hs:((z38 l n m:Nat):Int)≤S
  ·rw [if_pos hs,decide_eq_true hs]
   cases z3k l m x y<;>cases z3k l m y x<;>simp [o1]<;>omega
  ·rw [if_neg hs,decide_eq_false hs]
   simp [o1]
theorem y5z {l:List Vt} {N J:Int} (hv:∀ v∈l,¬ z6l N J v) {n:Nat} (hn:N=n) (S:Int) {m x y:Nat} (hxy:x<y):
  (0≤y0o l S x y m↔beK l n m S x y=true)∧(beK l n m S y x=!beK l n m S x y):=by
 have h:=w49 hv hn S x y (by omega) m
 have e1:beK l n m S x y=(!decide (y=x)&&(decide (cnt m (z20 l n S y x)<cnt m (z20 l n S x y))||(decide (cnt m (z20 l n S x y)=cnt m (z20 l n S y x))&&decide (x<y)))):=rfl
 have e2:beK l n m S y x=(!decide (x=y)&&(decide (cnt m (z20 l n S x y)<cnt m (z20 l n S y x))||(decide (cnt m (z20 l n S y x)=cnt m (z20 l n S x y))&&decide (y<x)))):=rfl
 rw [h,e1,e2]
 generalize cnt m (z20 l n S x y)=p
 generalize cnt m (z20 l n S y x)=q
 have h1:¬ y=x:=by omega
 have h2:¬ x=y:=by omega
 have h3:¬ y<x:=by omega
 by_cases a:q<p
 ·have b:¬ p<q:=by omega
  have c:¬ q=p:=by omega
  refine ⟨⟨fun _=>?_,fun _=>by omega⟩,?_⟩<;>simp [h1,h2,h3,hxy,a,b,c]
 ·by_cases b:p<q
  ·have c:¬ p=q:=by omega
   refine ⟨⟨fun _=>by omega,fun q'=>?_⟩,?_⟩
   ·simp [h1,a,c] at q'
   ·simp [h1,h2,a,b,c]
  ·have c:p=q:=by omega
   subst c
   refine ⟨⟨fun _=>?_,fun _=>by omega⟩,?_⟩<;>simp [h1,h2,h3,hxy]
end Go.Am
end
section
namespace Go.Am
theorem v2w:z07 P34 15 [false]=some (cdF 15 [false]):=by kernel_rfl
theorem v2m:z07 P34 15 [false,true,true]=some (cdF 15 [false,true,true]):=by kernel_rfl
theorem v8k:z07 P34 15 (false::B15)=some (cdF 15 (false::B15)):=by kernel_rfl
theorem v8h:z07 P34 15 ([true,true,true]++B15)=some (cdF 15 ([true,true,true]++B15)):=by kernel_rfl
theorem v2t:z07 P34 15 [true,true,true,true,true]=some (cdF 15 [true,true,true,true,true]):=by kernel_rfl
theorem v1h (N J S:Int) (V:List (List D)):w5p 15 [false] [(0,y15 N J S V)] [] 38=some (.normal,⟨⟨[(0,y15 N J S V),(1, .bptr 0 0),(2, .d (.list true 0 [])),(3, .d (.int .i64 0))],[.box (bkC N J S V)],38⟩,[]⟩):=by kernel_rfl
theorem v07 (x:AV) (e:Int) (h:List AO):w5p 15 [false,true,true] [(1, .bptr 0 0),(2, .d (.list true 0 [])),(3, .d (.int .i64 0)),(4,x),(5, .d (.int .i64 e))] h 38=opt.ask _ (std.cmp .neq e 0)
  (some (.ret,⟨⟨[(1, .bptr 0 0),(2, .d (.list true 0 [])),(3, .d (.int .i64 e)),(4,x),(5, .d (.int .i64 e)),(14, .d (.int .i64 e)),(15, .d (.bool true)),(16, .d (.int .i64 e))],h,38⟩,[]⟩))
  (some (.normal,⟨⟨[(1, .bptr 0 0),(2, .d (.list true 0 [])),(3, .d (.int .i64 0)),(4,x),(5, .d (.int .i64 e)),(14, .d (.int .i64 e)),(15, .d (.bool false))],h,38⟩,[]⟩)):=by kernel_rfl
theorem v77 (L n:Nat) (i:Int) (h:List AO):w5p 15 (false::B15) (y76 L n i) h 38=some (.normal,⟨⟨y76 L n i++[(26, .d (.bool (std.cmp .lss i (n:Int))))],h,38⟩,[]⟩):=by kernel_rfl
theorem v74 (L n:Nat) (i:Int) (h:List AO):w5p 15 ([true,true,true]++B15) (y76 L n i) h 38=some (.normal,⟨⟨y76 L n (std.ar .add .i64 i 1)++[(36, .d (.int .i64 (std.ar .add .i64 i 1)))],h,38⟩,[]⟩):=by kernel_rfl
theorem v1e (x:AV) (h:List AO):w5p 15 [true,true,true,true,true] [(6,x)] h 38=some (.ret,⟨⟨[(6,x),(37,x),(2,x),(3, .d (.int .i64 0))],h,38⟩,[]⟩):=by kernel_rfl
theorem u0n:∃ fn,P34.funcs[15]?=some fn∧fn.body=some (cdF 15 [])∧fn.ntmps=38∧fn.results.toList=[.tmp 2, .tmp 3]:=by
 have:(P34.funcs[15]?.map fun fn=>(fn.body,fn.ntmps,fn.results.toList))=some (some (cdF 15 []),38,[.tmp 2, .tmp 3]):=by kernel_rfl
 cases hq:P34.funcs[15]? with
 |none=>rw [hq] at this; cases this
 |some fn=>
  rw [hq] at this
  simp only [Option.map_some,Option.some.injEq,Prod.mk.injEq] at this
  exact ⟨fn,rfl,this.1,this.2.1,this.2.2⟩
def slT (f:Nat→JM×JM) (n t:Nat):List Int:=(List.range n).map fun i=>if i<t then ((f i).2.length:Int) else 0
theorem w0v (f:Nat→JM×JM) (n:Nat):z2i (slT f n 0)=List.replicate n [.int .i64 0]:=by
 apply List.ext_getElem?
 intro i
 unfold z2i slT
 rw [List.map_map,List.getElem?_map,List.getElem?_replicate]
 by_cases h:i<n
 ·rw [List.getElem?_range h,if_pos h]; rfl
 ·rw [List.getElem?_eq_none (by simp; omega),if_neg h]; rfl
theorem w87 {f:Nat→JM×JM} {n t:Nat} (ht:t<n):(z2i (slT f n t))[t]?=some [.int .i64 0]:=by
 unfold z2i slT
 rw [List.map_map,List.getElem?_map,List.getElem?_range ht]
 show some (eI (if t<t then _ else 0))=_
 rw [if_neg (Nat.lt_irrefl t)]; rfl
theorem w5n {f:Nat→JM×JM} {n t:Nat} (ht:t<n):(z2i (slT f n t)).set t [.int .i64 ((f t).2.length:Int)]=z2i (slT f n (t+1)):=by
 apply List.ext_getElem?
 intro i
 rw [List.getElem?_set]
 unfold z2i slT
 rw [List.map_map,List.map_map,List.length_map,List.length_range]
 by_cases e:t=i
 ·subst e
  rw [if_pos rfl,if_pos ht,List.getElem?_map,List.getElem?_range ht]
  show _=some (eI (if t<t+1 then _ else 0))
  rw [if_pos (Nat.lt_succ_self t)]; rfl
 ·rw [if_neg e,List.getElem?_map,List.getElem?_map]
  by_cases h:i<n
  ·rw [List.getElem?_range h]
   show some (eI (if i<t then _ else 0))=some (eI (if i<t+1 then _ else 0))
   by_cases h2:i<t
   ·rw [if_pos h2,if_pos (by omega)]
   ·rw [if_neg h2,if_neg (by omega)]
  ·rw [List.getElem?_eq_none (by simp; omega)]; rfl
theorem w9z {N S:Int} {V:List (List D)} {n L:Nat} (hn:n≤1000) {f:Nat→JM×JM} {h:List AO} (hf:x6f h 1 N n S V n f) (hL:1+(2+4*n)≤L) (hLh:L<h.length) (hr:z0e h L= .row (z2i (slT f n 0)))
  {Q:AX→AS→Prop} (hQ:∀ h',z0e h' L= .row (z2i (slT f n n))→Q (.exit 0) ⟨y76 L n (n:Int),h',38⟩):z2u P34 0 (.loop (cdF 15 B15)) ⟨y76 L n ((0:Nat):Int),h,38⟩ Q:=by
 let ι:={ x:Nat×List AO // x.1≤n∧x6f x.2 1 N n S V n f∧L<x.2.length∧z0e x.2 L= .row (z2i (slT f n x.1)) }
 let I:ι→AS:=fun g=>⟨y76 L n (g.1.1:Nat),g.1.2,38⟩
 refine z7v (ι:=ι) I (fun g=>n - g.1.1) (fun _ _=>rfl) ?_ ⟨(0,h),Nat.zero_le _,hf,hLh,hr⟩
 rintro ⟨⟨t,h1⟩,ht,hf1,hL1,hr1⟩
 have hf1:x6f h1 1 N n S V n f:=hf1
 have hL1:L<h1.length:=hL1
 have hr1:z0e h1 L= .row (z2i (slT f n t)):=hr1
 rw [sB15]
 refine z0h ?_
 refine (rgF v8k (v77 L n (t:Int) h1)).mono ?_
 rintro e s ⟨rfl,rfl⟩
 refine z0h ?_
 by_cases hlt:t<n
 ·have hc:std.cmp .lss (t:Int) (n:Int)=true:=by rw [z4k]; exact decide_eq_true (by omega)
  refine z1x (t:=true) (by show AV.d (.bool (std.cmp .lss (t:Int) (n:Int)))=_; rw [hc]) ?_
  rw [if_pos rfl]
  refine z4r ?_
  refine z09 (s':=⟨y76 L n (t:Int),h1,38⟩) (z2a.env (n:=0) (s:=⟨_,h1,38⟩) (y4g rfl rfl rfl rfl)) ?_
  refine z0h (z1h (z0h (z0t (z00 ?_))))
  refine w5y hlt hf1 (Q:=fun s'=>z2u P34 0 (.region 8 (z2v 15 x6b) false) s' _) ?_
  have hh1:=hf1.len
  have l2:(z0o (z0o h1 h1.length (.box [.d .nilm, .d .nilm])) h1.length (.box [.map (1+(2+4*t)), .map (1+(3+4*t))])).length=h1.length+1:=by
   rw [z0q _ _ _ (by rw [z1c]; omega),z1c]
  have k2:∀ j,j<h1.length→z0e (z0o (z0o h1 h1.length (.box [.d .nilm, .d .nilm])) h1.length (.box [.map (1+(2+4*t)), .map (1+(3+4*t))])) j=z0e h1 j:=fun j hj=>by
   rw [z0a _ _ _ _ (by omega),z0a _ _ _ _ (by omega)]
  have m2:z0e (z0o (z0o h1 h1.length (.box [.d .nilm, .d .nilm])) h1.length (.box [.map (1+(2+4*t)), .map (1+(3+4*t))])) h1.length= .box [.map (1+(2+4*t)), .map (1+(3+4*t))]:=z0b _ _ _
  generalize z0o (z0o h1 h1.length (.box [.d .nilm, .d .nilm])) h1.length (.box [.map (1+(2+4*t)), .map (1+(3+4*t))])=h2 at l2 k2 m2⊢
  have hf2:=hf1.keep (h':=h2) (by omega) (fun j _ hj=>k2 j (by omega))
  refine z0t (z00 ?_)
  refine w5w (m:=(f t).2) (y0:=0) hlt m2 (hf2.slip t hlt) (by rw [k2 L hL1]; exact hr1) (w87 hlt) ?_
  rw [w5n hlt]
  have l3:(z0o h2 L (.row (z2i (slT f n (t+1))))).length=h2.length:=z0q _ _ _ (by omega)
  have k3:∀ j,j≠L→z0e (z0o h2 L (.row (z2i (slT f n (t+1))))) j=z0e h2 j:=fun j hj=>z0a _ _ _ _ (Ne.symm hj)
  have m3:z0e (z0o h2 L (.row (z2i (slT f n (t+1))))) L= .row (z2i (slT f n (t+1))):=z0b _ _ _
  generalize z0o h2 L (.row (z2i (slT f n (t+1))))=h3 at l3 k3 m3⊢
  have hf3:=hf2.keep (h':=h3) (by omega) (fun j _ hj=>k3 j (by omega))
  show z2u P34 0 (cdF 15 ([true,true,true]++B15)) ⟨y76 L n (t:Int),h3,38⟩ _
  refine z0t ((rgF v8h (v74 L n (t:Int) h3)).mono ?_)
  rintro e s ⟨rfl,rfl⟩
  rw [w8k (i:=t) (by omega)]
  exact ⟨⟨y76 L n ((t+1:Nat):Int),h3,38⟩,z2a.env (n:=0) (s:=⟨_,h3,38⟩) (y4g rfl rfl rfl rfl),⟨⟨(t+1,h3),hlt,hf3,by show L<h3.length; omega,m3⟩,rfl,by show n - (t+1)<n - t; omega⟩⟩
 ·have htl:t=n:=by omega
  subst htl
  have hc:std.cmp .lss (t:Int) (t:Int)=false:=by rw [z4k]; exact decide_eq_false (by omega)
  refine z1x (t:=false) (by show AV.d (.bool (std.cmp .lss (t:Int) (t:Int)))=_; rw [hc]) ?_
  rw [if_neg (by simp)]
  refine z09 (s':=⟨y76 L t (t:Int),h1,38⟩) (z2a.env (n:=0) (s:=⟨_,h1,38⟩) (y4g rfl rfl rfl rfl)) ?_
  exact z6e (hQ h1 hr1)
theorem z9f (h:List AO):x6a (fun _=>false) h []:=⟨fun id=>by rw [z31]; rfl,fun id hk=>by cases hk⟩
theorem x53 {N J S e:Int} {V:List (List D)} (h19:G19 std (N,(J,(S,(V,()))))=some (e,())) (he:e≠0):z6m P34 15 [y15 N J S V] [] (.tuple [.d (.list true 0 []), .d (.int .i64 e)]) []:=by
 obtain ⟨fn,hf,hb,hnt,hres⟩:=u0n
 refine z23 x3r hf hb hnt (by show 1≤38; omega) ?_
 rw [hres,s15]
 refine z0h ((rgF v2w (v1h N J S V)).mono ?_)
 rintro e1 s1 ⟨rfl,rfl⟩
 refine z0h (z0t (z00 (x7j (y67 h19 he) (Q:=fun s'=>z2u P34 0 (.seq (cdF 15 [false,true,true]) (.seq (.region 4 (z2v 15 w0b) false) (.seq (.seq (.region 5 (z2v 15 x46) false) (.block 0 (.loop (cdF 15 B15)))) (cdF 15 [true,true,true,true,true])))) s' _) ?_)))
 have hc:std.cmp .neq e 0=true:=by rw [x1m,decide_eq_false he]; rfl
 refine z0h (z0t ((rgF v2m ((v07 _ e _).trans (by rw [hc]; rfl))).mono ?_))
 rintro e1 s1 ⟨rfl,rfl⟩
 refine ⟨_,z2a.view (n:=0) (s:=⟨_,_,38⟩) (fun _=>false) (fun id hid=>absurd hid (Nat.not_lt_zero _)) (z9f _), .inr rfl,?_,rfl⟩
 rfl
theorem v3d {N S:Int} {n:Nat} {l:List Vt} (h19:G19 std (N,((n:Int),(S,(z0g l,()))))=some (0,())) (h0:0<n) (hn:n≤1000) (hl:l.length≤1000) (hj:∀ v∈l,0≤v.1∧v.1<(n:Int)):
  z6m P34 15 [y15 N n S (z0g l)] [] (.tuple [.d (.list true 1 (z2i (slT (fun i=>z1i l (i:Int)) n n))), .d (.int .i64 0)]) []:=by
 obtain ⟨fn,hf,hb,hnt,hres⟩:=u0n
 refine z23 x3r hf hb hnt (by show 1≤38; omega) ?_
 rw [hres,s15]
 refine z0h ((rgF v2w (v1h N n S (z0g l))).mono ?_)
 rintro e1 s1 ⟨rfl,rfl⟩
 refine z0h (z0t (z00 (x7j (w4p h19 hn hl hj) (Q:=fun s'=>z2u P34 0 (.seq (cdF 15 [false,true,true]) (.seq (.region 4 (z2v 15 w0b) false) (.seq (.seq (.region 5 (z2v 15 x46) false) (.block 0 (.loop (cdF 15 B15)))) (cdF 15 [true,true,true,true,true])))) s' _) ?_)))
 have hfam:=x3w [.box (bkC N n S (z0g l))] N n S (z0g l) n (fun i=>z1i l (i:Int))
 have hb0:=(y5v [.box (bkC N n S (z0g l))] (x5w N n S (z0g l) n (fun i=>z1i l (i:Int)))).2.2.2 0 (by simp)
 have e1:([AO.box (bkC N n S (z0g l))]:List AO).length=1:=rfl
 rw [e1] at hfam hb0
 have hb0:z0e (z1g (z1d [] 1) [.box (bkC N n S (z0g l))] 0 (x5w N n S (z0g l) n (fun i=>z1i l (i:Int)))) 0= .box (bkC N n S (z0g l)):=hb0
 have er:z5e (z1d [] 1) (.bptr 1 0)= .bptr 2 0:=rfl
 rw [er]
 generalize z1g (z1d [] 1) [.box (bkC N n S (z0g l))] 0 (x5w N n S (z0g l) n (fun i=>z1i l (i:Int)))=H at hfam hb0⊢
 refine z0h ((rgF v2m (v07 (.bptr 2 0) 0 H)).mono ?_)
 rintro e1 s1 ⟨rfl,rfl⟩
 refine z09 (s':=⟨[(1, .bptr 0 0),(4, .bptr 2 0)],H,38⟩) (z2a.env (n:=0) (s:=⟨_,H,38⟩) (z06 fun x hx=>by
  simp only [List.mem_cons,List.not_mem_nil,or_false] at hx
  rcases hx with rfl|rfl<;>rfl)) ?_
 refine z0h (z0t (z00 (w53 hn hb0 (x:= .bptr 2 0) (Q:=fun s'=>z2u P34 0 (.seq (.seq (.region 5 (z2v 15 x46) false) (.block 0 (.loop (cdF 15 B15)))) (cdF 15 [true,true,true,true,true])) s' _) ?_)))
 have hlen:=hfam.len
 have lP:(z0o H H.length (.row (List.replicate n [.int .i64 0]))).length=H.length+1:=z1c _ _
 have kP:∀ j,j<H.length→z0e (z0o H H.length (.row (List.replicate n [.int .i64 0]))) j=z0e H j:=fun j hj=>z0a _ _ _ _ (by omega)
 have mP:z0e (z0o H H.length (.row (List.replicate n [.int .i64 0]))) H.length= .row (z2i (slT (fun i=>z1i l (i:Int)) n 0)):=by rw [z0b,w0v]
 generalize z0o H H.length (.row (List.replicate n [.int .i64 0]))=H2 at lP kP mP⊢
 have hfam2:=hfam.keep (h':=H2) (by omega) (fun j _ hj=>kP j (by omega))
 refine z0h (z0h (z0t (z00 (w51 h0 hfam2 (Q:=fun s'=>z2u P34 0 (.block 0 (.loop (cdF 15 B15))) s' _) ?_))))
 refine z1h ?_
 refine w9z hn hfam2 hlen (by omega) mP fun h3 hr3=>?_
 simp only [if_true]
 refine z09 (s':=⟨[(6, .slice H.length 1 0 n (some n))],h3,38⟩) (z2a.env (n:=0) (s:=⟨_,h3,38⟩) (z06 fun x hx=>by
  simp only [List.mem_cons,List.not_mem_nil,or_false] at hx
  rcases hx with rfl; rfl)) ?_
 refine z0t ((rgF v2t (v1e _ h3)).mono ?_)
 rintro e1 s1 ⟨rfl,rfl⟩
 refine ⟨_,z2a.view (n:=0) (s:=⟨_,h3,38⟩) (fun _=>false) (fun id hid=>absurd hid (Nat.not_lt_zero _)) (z9f h3), .inr rfl,?_,rfl⟩
 have hfr:frz (z0e h3 H.length) 1 0 n (some n)= .d (.list true 1 (z2i (slT (fun i=>z1i l (i:Int)) n n))):=by
  have hl':(z2i (slT (fun i=>z1i l (i:Int)) n n)).length=n:=by simp [z2i,slT]
  rw [hr3]
  simp only [frz,x2f,x0b,List.drop_zero,Nat.zero_add]
  rw [show Nat.ble n (z2i (slT (fun i=>z1i l (i:Int)) n n)).length=true from Nat.ble_eq_true_of_le (by omega),cond_true,List.take_of_length_le (by omega)]
  try rw [y8s]
 show some (AV.tuple [frz (z0e h3 H.length) 1 0 n (some n), .d (.int .i64 0)])=_
 rw [hfr]
end Go.Am
end
section
namespace Go.Am
theorem z6m.soft {g:FuncId} {args:List AV} {x x':D} {y:AV} (h:z6m P34 g args [] (.tuple [.d x,y]) []) (hx:w8j x x'):z6m P34 g args [] (.tuple [.d x',y]) []:=⟨by
 intro ρ vs w cs a1 a2 a3
 obtain ⟨ρ',v,w',fr,b1,b2,b3,b4,b5,b6,b7⟩:=h.run ρ vs w cs a1 a2 a3
 refine ⟨ρ',v,w',fr,b1,b2,b3,?_,b5,b6,b7⟩
 cases b4 with
 |tuple _ us hl hv=>
  refine .tuple _ us hl fun i z hz=>?_
  match i,hz with
  |0,hz=>
   cases hz
   have:=hv 0 _ rfl
   generalize us.getD 0 undef=u at this⊢
   cases this with|d hd=>exact .d (hd.le0 hx)
  |i+1,hz=>exact hv (i+1) z hz⟩
def w7i:List D→Option Vt
 |[.int .i64 a, .int .i64 b, .int .i64 c]=>some (a,b,c)
 |_=>none
def x0p:List (List D)→Option (List Vt)
 |[]=>some []
 |r::l=>match w7i r,x0p l with
  |some v,some l=>some (v::l)
  |_,_=>none
theorem w2r {r:List D} {v:Vt} (h:w7i r=some v):r=eVt v:=by
 unfold w7i at h
 split at h
 ·cases h; rfl
 ·cases h
theorem y8h:∀ {V:List (List D)} {l:List Vt},x0p V=some l→V=z0g l
 |[],l,h=>by cases h; rfl
 |r::V,l,h=>by
  unfold x0p at h
  split at h
  ·rename_i v l' h1 h2
   cases h
   rw [w2r h1,y8h h2]; rfl
  ·cases h
theorem y4w:∀ l:List Vt,x0p (z0g l)=some l
 |[]=>rfl
 |v::l=>by
  show x0p (eVt v::z0g l)=_
  unfold x0p
  rw [y4w l]; rfl
noncomputable def z6w:Ctr:=
 ⟨15,[.agg [.int .i64, .int .i64, .int .i64, .list 3]],[],[(.ret,⟨[(0, .tuple [.list 1, .int .i64])],[],1⟩)]⟩
def q15 (x:Int×(Int×(Int×(List (List D)×Unit)))):Option (List (List D)×(Int×Unit)):=
 match x0p x.2.2.2.1 with
 |none=>none
 |some l=>if z3y x.1 x.2.1 x.2.2.1 l=0 then some (z2i (z3m l x.1.toNat x.2.1.toNat),(0,())) else some ([],(z3y x.1 x.2.1 x.2.2.1 l,()))
noncomputable def v3n:(p:Prim)→(Int×(Int×(Int×(List (List D)×Unit))))→Option (List (List D)×(Int×Unit)):=fun p x=>q15 x
noncomputable def u1k:Prim→Tup (z6w).scs→Option (STup (scss (z6w).outs)):=fun p x=>v3n p x
theorem x86:z13 P34 15:=enters_auto (b:=_) rfl (by kernel_rfl)
theorem x9s {N J S:Int} {l:List Vt} (h:z3y N J S l=0):l.length≤80∧(N.toNat:Int)=N∧1≤N.toNat∧N.toNat≤10∧(J.toNat:Int)=J∧1≤J.toNat∧J.toNat≤12∧0≤S∧S≤45∧(∀ v∈l,¬ z6l N J v)∧∀ v∈l,0≤v.1∧v.1<(J.toNat:Int):=by
 obtain ⟨h1,h2,h3,h4,h5,h6,h7,h8⟩:=w27 h
 refine ⟨h1,by omega,by omega,by omega,by omega,by omega,by omega,h6,h7,h8,fun v hv=>?_⟩
 have:=h8 v hv
 unfold z6l at this
 omega
theorem x66 {N J:Int} {l:List Vt} (hv:∀ v∈l,¬ z6l N J v) (hN:(N.toNat:Int)=N) (n:Nat):slT (fun i=>z1i l (i:Int)) n n=z3m l N.toNat n:=by
 unfold slT z3m
 refine List.map_congr_left fun i hi=>?_
 have:=List.mem_range.1 hi
 rw [if_pos this,y6l hv hN.symm]
theorem v5c:CtrOk P34 z6w (u1k std):=by
 have key:∀ (N J S:Int) (V:List (List D)) (y:STup (scss (z6w).outs)),q15 (N,(J,(S,(V,()))))=some y→(y2z std z6w (z91 (z6w).scs (N,(J,(S,(V,())))))).2.length≤(z1s std (z6w).outs y).2.s.heap.length∧
   z6m P34 15 (y2z std z6w (z91 (z6w).scs (N,(J,(S,(V,())))))).1 (y2z std z6w (z91 (z6w).scs (N,(J,(S,(V,())))))).2 (z0r (z1s std (z6w).outs y).2.s.env 0) (z1s std (z6w).outs y).2.s.heap:=by
  intro N J S V y hy
  unfold q15 at hy
  simp only at hy
  split at hy
  ·cases hy
  ·rename_i l hd
   have hV:=y8h hd
   subst hV
   by_cases h0:z3y N J S l=0
   ·rw [if_pos h0] at hy
    cases hy
    obtain ⟨h1,h2,h3,h4,h5,h6,h7,h8,h9,h10,h11⟩:=x9s h0
    have h19:=x4m N J S l
    rw [h0] at h19
    have h:=v3d (N:=N) (S:=S) (n:=J.toNat) (l:=l) (by rw [h5]; exact h19) (by omega) (by omega) (by omega) h11
    rw [h5,x66 h10 h2] at h
    exact ⟨Nat.le_refl _,h.soft (.inr ⟨1,rfl, .inl rfl⟩)⟩
   ·rw [if_neg h0] at hy
    cases hy
    exact ⟨Nat.le_refl _,(x53 (x4m N J S l) h0).soft (.inr ⟨1,rfl, .inr rfl⟩)⟩
 exact ⟨x86,fun x y hy=>key x.1 x.2.1 x.2.2.1 x.2.2.2.1 y hy⟩
end Go.Am
end
section
namespace Go.Am
section
variable {P:Program}
structure w3o (P:Program) (n:Nat) (g:FuncId) (args:List AV) (s:AS) (K:AV→AS→Prop):Prop where
 run:∀ (ρ:Rho) (vs tm:Array Value) (w:World) (cs:List Frame),z10 P ρ s tm w→z2b ρ (z0k ρ s.heap) w args vs→
  ∃ r s' ρ' v w' fr,K r s'∧Steps P (lone (Frame.enter P g vs .normal) cs w) (lone fr cs w')∧fr.fn=g∧fr.leaving P w' (.returned v)∧z0w ρ' (z0k ρ' s'.heap) w' r v∧z10 P ρ' s' tm w'∧s'.nt=s.nt∧Ext (· <n) ρ s.heap w ρ' s'.heap w'
theorem y8p {T : TypeId → Option TI} (hT : z9t P T) {n : Nat} {s0 : AS} (hn : n ≤ s0.heap.length) {f : FuncId} {fn : Func} (hf : P.funcs[f]? = some fn) {c : Code} (hb : fn.body = some c) {args : List AV} {K : AV → AS → Prop} {nt : Nat} (hnt : fn.ntmps = nt) (hle : args.length ≤ nt)
    (hc : z2u P s0.heap.length c ⟨x8w 0 args, s0.heap, nt⟩ (fun e s => (e = .normal ∨ e = .ret) ∧ ∃ r, w8o T s fn.results.toList = some r ∧ K r ⟨s0.env, s.heap, s0.nt⟩)) : w3o P n f args s0 K := ⟨by
  intro ρ vs tm0 w cs h10 ha
  have hh := h10.heap
  have hdm := h10.dom
  have hstart : (Frame.enter P f vs .normal).on (vs ++ Array.replicate (nt - vs.size) undef) [] [.code c] = Frame.enter P f vs .normal := by
    simp [Frame.enter, Frame.on, hf, hb, hnt]
  have h1 : z10 P ρ ⟨x8w 0 args, s0.heap, nt⟩ (vs ++ Array.replicate (nt - vs.size) undef) w :=
    ⟨hh, z6h.init ha nt, by simp [ha.1]; omega, hdm⟩
  obtain ⟨e, s', ρ', tm', ds', w', ⟨q1, r, q2, q3⟩, g1, g2, g3, g4, g5⟩ := hc.run (Frame.enter P f vs .normal) [] cs ρ _ [] w w.heap.size h1 ⟨List.nodup_nil, by simp, hh.fr, Nat.le_refl _, fun l hl => by cases hl⟩
  rw [hstart] at g5
  obtain ⟨todo, hst⟩ : ∃ todo, Steps P (lone (Frame.enter P f vs .normal) cs w) (lone { (Frame.enter P f vs .normal).on tm' ds' todo with mode := .returning } cs w') := by
    rcases q1 with rfl | rfl
    · exact ⟨_, Steps.trans g5 (.one (w3t rfl))⟩
    · obtain ⟨k', hs⟩ := g5
      exact ⟨_, Steps.trans hs (.one (w3s rfl))⟩
  obtain ⟨w2, u1, u2, u3, u4, u5, u6, u7⟩ := x6r (P := P) _ _ ds' { (Frame.enter P f vs .normal).on tm' ds' todo with mode := .returning } cs w' rfl rfl g2
  have hnot : ∀ b, z0k ρ' s'.heap b → ∀ d ∈ ds', d.target ≠ .collected b := by
    intro b hbo d hd hdt
    obtain ⟨r', e', hr', hf'⟩ := g2.mark d hd
    rw [e'] at hdt
    cases hdt
    exact y70 g1.heap (fun hf => by have := g2.below _ hf; omega) hbo hr'
  have hbs : ∀ b m, z1l w' b = some m → z1l w2 b = some m := by
    intro b m hm
    have : ∀ d ∈ ds', d.target ≠ .collected b := by
      intro d hd hdt
      obtain ⟨r', e', hr', _⟩ := g2.mark d hd
      rw [e'] at hdt; cases hdt
      simp [z1l, hr'] at hm
    unfold z1l; rw [u6 b this]; exact hm
  have hold : ∀ b, b < w.heap.size → w2.heap[b]? = w'.heap[b]? := by
    intro b hb
    refine u6 b fun d hd hdt => ?_
    obtain ⟨r', e', _, hB⟩ := g2.mark d hd
    rw [e'] at hdt; cases hdt
    omega
  have hcell : ∀ (a : Addr) (v : Value), w'.cell? a = some v → w2.cell? a = some v := by
    intro a v hv
    have : ∀ d ∈ ds', d.target ≠ .collected a.block := by
      intro d hd hdt
      obtain ⟨r', e', hr', _⟩ := g2.mark d hd
      rw [e'] at hdt; cases hdt
      unfold World.cell? at hv
      rw [hr'] at hv; cases hv
    rw [z28 (w := w') (u6 _ this)]; exact hv
  have hh2 : z0d P ρ' s'.heap w2 := g1.heap.cells hcell (by omega) hbs (fun b hb => u6 b (hnot b hb))
  have g1' : z10 P ρ' s' tm' w2 := ⟨hh2, fun t => (g1.env t).cells hcell (by omega) hbs, g1.size, g1.dom⟩
  obtain ⟨v, hv1, hv2⟩ := y58 hT g1' q2
  have hxf : Ext (· < s0.heap.length) ρ s0.heap w ρ' s'.heap w2 :=
    { os := u2.trans g4.os
      tape := u3.trans g4.tape
      output := u4.trans g4.output
      keep :=
        { size := by rw [u5]; exact g4.keep.size
          frame := fun b hb ho => (hold b hb).trans (g4.keep.frame b hb ho)
          own := fun b hb ho => g4.keep.own b hb ho
          shape := fun b m hm => hbs b m (g4.keep.shape b m hm)
          drawn := by rw [u7]; exact g4.keep.drawn }
      rho := g4.rho
      fr := g4.fr
      frs := fun b hf => (hold b (hh.fr b hf)).trans (g4.frs b hf) }
  have hρ : ∀ id L, ρ id = some L → ρ' id = some L := fun id L hL => by
    have hid : id < s0.heap.length := h10.dom id (by rw [hL]; simp)
    rw [hxf.rho id hid]; exact hL
  exact ⟨r, _, ρ', v, w2, _, q3, Steps.trans hst u1, rfl, ⟨rfl, rfl, rfl, fn, hf, hv1⟩, hv2, ⟨hh2, fun t => (h10.env t).keep hxf.keep hρ, h10.size, g1.dom⟩, rfl, hxf.mono (fun id (hid : id < n) => by show id < s0.heap.length; omega)⟩⟩
theorem y4x {n:Nat} {s:AS} {Q:AX→AS→Prop} {f:Operand} {ps:Array Tmp} {asg body:Code} {g:FuncId} {first captured:List AV} {gc:Nat} {pos:List Bool} (hcd:z07 P gc pos=some (.rangeFunc f ps asg body)) (hf:z0n s.env f= .clo (.func g) first captured) (hen:z13 P g) (hn:n≤s.heap.length)
  (hret:w3o P (s.heap.length+1) g (first++[.yld s.heap.length]++captured) ⟨s.env,z0o s.heap s.heap.length (.loop .ready none gc pos s.nt s.env),s.nt⟩ fun r sc=>
   ∃ st pd gc' pos' env nt e s',z0e sc.heap s.heap.length= .loop st pd gc' pos' nt env∧st≠ .busy∧z6g sc (z0o sc.heap s.heap.length .dead) pd=some (e,s')∧Q e s'):z2u P n (.rangeFunc f ps asg body) s Q:=⟨by
 intro b k cs ρ tm ds w B h1 h2
 have hnone:ρ s.heap.length=none:=by
  cases hq:ρ s.heap.length with
  |none=>rfl
  |some L=>have:=h1.dom s.heap.length (by rw [hq]; simp); omega
 obtain ⟨mark,w1,dsn,hw1,hrun1,hmark⟩:∃ (mark:List Deferred) (w1:World) (dsn:Nat),(z0d P ρ s.heap w1∧Ext (· <s.heap.length) ρ s.heap w ρ s.heap w1)∧
   (∀ o:Loop,o={ state:= .ready,pending:=none,fn:=b.fn,tmps:=tm,params:=ps,assign:=asg,body:=body,defers:=dsn }→(Instr.enterLoop b.fn tm ps asg body b.roundOf).run P w= .ok (w1.heap.size,mark) (World.push w1 (.loop o)))∧z3j b.roundOf B ρ.fr w1 (mark++ds):=by
  cases hro:b.roundOf with
  |none=>
   refine ⟨[{ target:= .collected w.heap.size,args:=#[] }],World.push w (.deferred (some [])),w.heap.size,⟨h1.heap.push0 _,Ext.push0 _ h1.heap _⟩,?_,?_⟩
   ·rintro o rfl
    simp [Instr.enterLoop,newObj,Sem.run,World.push]
    rfl
   ·rw [hro] at h2
    refine ⟨?_,?_,h2.below,by rw [z57]; have:=h2.le; omega,fun l hl=>by cases hl⟩
    ·refine List.nodup_cons.2 ⟨fun hm=>?_,h2.nodup⟩
     obtain ⟨r,e,hr,_⟩:=h2.mark _ hm
     have:=(Array.getElem?_eq_some_iff.1 hr).1
     have e2:Target.collected w.heap.size=Target.collected r:=congrArg Deferred.target e
     injection e2 with e2
     omega
    ·intro d hd
     rcases List.mem_cons.1 hd with rfl|hd
     ·exact ⟨w.heap.size,rfl,z2o _ _,h2.le⟩
     ·obtain ⟨r,e,hr,hB⟩:=h2.mark d hd
      exact ⟨r,e,by rw [z49 _ _ _ (Array.getElem?_eq_some_iff.1 hr).1]; exact hr,hB⟩
  |some l0=>
   rw [hro] at h2
   obtain ⟨_,r0,hr0⟩:=h2.round l0 rfl
   refine ⟨[],w,r0.defers,⟨h1.heap,Ext.refl _ _ _ _⟩,?_,h2⟩
   rintro o rfl
   simp [Instr.enterLoop,newObj,Sem.run,World.push,z43 hr0]
   try rfl
 obtain ⟨hh1,hx1⟩:=hw1
 have hrun1:=hrun1 _ rfl
 generalize hlo:({ state:= .ready,pending:=none,fn:=b.fn,tmps:=tm,params:=ps,assign:=asg,body:=body,defers:=dsn }:Loop)=lo at hrun1
 have hx2:=Ext.new hh1 hnone ⟨w1.heap.size,0,0⟩ (.loop .ready none gc pos s.nt s.env) (.loop lo) rfl
 have hh2:z0d P (ρ.put s.heap.length ⟨w1.heap.size,0,0⟩) (z0o s.heap s.heap.length (.loop .ready none gc pos s.nt s.env)) (World.push w1 (.loop lo)):=
  hh1.new hnone 0 _ _ ⟨f,ps,asg,body,hcd,tm,dsn,b.fn,by rw [z2o, ←hlo],h1.size,fun t=>((h1.env t).keep hx1.keep (fun _ _ h=>h)).keep hx2.keep (Rho.put_mono _ _ _ hnone)⟩
 have hd2:Dom (ρ.put s.heap.length ⟨w1.heap.size,0,0⟩) (z0o s.heap s.heap.length (.loop .ready none gc pos s.nt s.env)):=fun id hid=>by
  rw [z1c]
  by_cases e:id=s.heap.length
  ·omega
  ·rw [Rho.put_ne _ _ _ _ e] at hid
   have:=h1.dom id hid; omega
 have hx02:=(hx1.mono (S':=(· <s.heap.length)) (fun _ h=>h)).trans (hx2.mono (S':=(· <s.heap.length)) (fun id (h:id<s.heap.length)=>by show id≠s.heap.length; omega))
 have hmono2:∀ id L,ρ id=some L→(ρ.put s.heap.length ⟨w1.heap.size,0,0⟩) id=some L:=Rho.put_mono _ _ _ hnone
 have hfv:=z0p h1.env f
 rw [hf] at hfv
 obtain ⟨vf,vc,hfe,hfr,hcr⟩:∃ vf vc,opv tm f= .func (.func g) vf vc∧z2b ρ (z0k ρ s.heap) w first vf∧z2b ρ (z0k ρ s.heap) w captured vc:=by
  generalize hv:opv tm f=v at hfv
  cases hfv with
  |clo _ _ _ vf vc a1 a2 a3 a4=>exact ⟨vf,vc,rfl,⟨a1,a3⟩,⟨a2,a4⟩⟩
 have later:∀ (xs:List AV) (vs:Array Value),z2b ρ (z0k ρ s.heap) w xs vs→z2b (ρ.put s.heap.length ⟨w1.heap.size,0,0⟩) (z0k (ρ.put s.heap.length ⟨w1.heap.size,0,0⟩) (z0o s.heap s.heap.length (.loop .ready none gc pos s.nt s.env))) (World.push w1 (.loop lo)) xs vs:=
  fun xs vs h=>⟨h.1,fun i x hx=>(h.2 i x hx).keep hx02.keep hmono2⟩
 have hyl:z2b (ρ.put s.heap.length ⟨w1.heap.size,0,0⟩) (z0k (ρ.put s.heap.length ⟨w1.heap.size,0,0⟩) (z0o s.heap s.heap.length (.loop .ready none gc pos s.nt s.env))) (World.push w1 (.loop lo)) [.yld s.heap.length] #[.func (.yield w1.heap.size) #[] #[]]:=
  ⟨rfl,fun i x hx=>by
   cases i with
   |zero=>cases hx; exact .yld _ _ (Rho.put_same _ _ _)
   |succ i=>simp at hx⟩
 have hexec:(do let d←resolve (opv tm) { callee:= .value f,args:=#[.const (.func (.yield w1.heap.size) #[] #[])],argTypes:=#[] } 0; invoke d.target d.args:Sem Next).run P (World.push w1 (.loop lo))= .ok (.enter g (vf++#[.func (.yield w1.heap.size) #[] #[]]++vc)) (World.push w1 (.loop lo)):=by
  have:=hen (vf++#[.func (.yield w1.heap.size) #[] #[]]++vc) (World.push w1 (.loop lo))
  simp only [Array.append_singleton] at this⊢
  have hcst:opv tm (.const (.func (.yield w1.heap.size) #[] #[]))= .func (.yield w1.heap.size) #[] #[]:=rfl
  simp [resolve,Deferred.ofValue,hfe,invoke,hcst,this]
 have hst2:z10 P (ρ.put s.heap.length ⟨w1.heap.size,0,0⟩) ⟨s.env,z0o s.heap s.heap.length (.loop .ready none gc pos s.nt s.env),s.nt⟩ tm (World.push w1 (.loop lo)):=
  ⟨hh2,fun t=>(h1.env t).keep hx02.keep hmono2,h1.size,hd2⟩
 obtain ⟨r,sc,ρ3,v,w3,fr,⟨st,pd,gc',pos',env,nt,e,s',hob,hst,haf,hQ⟩,hsteps,hfn,hlv,hv,hst3,hnt3,hx3⟩:=hret.run _ _ tm (World.push w1 (.loop lo)) (b.on tm (mark++ds) (.inRangeFunc w1.heap.size::k)::cs) hst2 (((later _ _ hfr).append hyl).append (later _ _ hcr))
 have hh3:=hst3.heap
 have hdm3:=hst3.dom
 have hL3:ρ3 s.heap.length=some ⟨w1.heap.size,0,0⟩:=by rw [hx3.rho _ (by show s.heap.length<s.heap.length+1; omega)]; exact Rho.put_same _ _ _
 obtain ⟨_,hobj⟩:=hh3.obj _ _ hL3
 rw [hob] at hobj
 obtain ⟨x',ps',asg',body',hcd3,tm3,ds3,fid3,hcb3,hts3,hev3⟩:=hobj
 have hel:=y35 (P:=P) hcb3 hst
 have hlive:(z0e sc.heap s.heap.length).live=true:=by rw [hob]; rfl
 have hbs:∀ m,z1l w3 w1.heap.size=some m→z1l (World.setObj w3 w1.heap.size (.loop { state:= .exhausted,pending:=pd,fn:=fid3,tmps:=tm3,params:=ps',assign:=asg',body:=body',defers:=ds3 })) w1.heap.size=some m:=fun m hm=>y14 hcb3 _ _ hm
 have hk4:=z19 hh3 hL3 hlive (.loop .exhausted pd gc' pos' nt env) rfl (.loop { state:= .exhausted,pending:=pd,fn:=fid3,tmps:=tm3,params:=ps',assign:=asg',body:=body',defers:=ds3 }) hbs
 have hh4:=hh3.set hL3 hlive (.loop .exhausted pd gc' pos' nt env) rfl (.loop { state:= .exhausted,pending:=pd,fn:=fid3,tmps:=tm3,params:=ps',assign:=asg',body:=body',defers:=ds3 }) hbs
  ⟨x',ps',asg',body',hcd3,tm3,ds3,fid3,z0s _ _ _ (Array.getElem?_eq_some_iff.1 hcb3).1,hts3,fun t=>(hev3 t).keep hk4 (fun _ _ h=>h)⟩
 have hx4:=Ext.set (· <s.heap.length) hh3 hL3 hlive (.loop .exhausted pd gc' pos' nt env) rfl (.loop { state:= .exhausted,pending:=pd,fn:=fid3,tmps:=tm3,params:=ps',assign:=asg',body:=body',defers:=ds3 }) hbs
 have hh5:=hh4.kill s.heap.length
 have hx5:=Ext.kill (· <s.heap.length) ρ3 (z0o sc.heap s.heap.length (.loop .exhausted pd gc' pos' nt env)) (World.setObj w3 w1.heap.size (.loop { state:= .exhausted,pending:=pd,fn:=fid3,tmps:=tm3,params:=ps',assign:=asg',body:=body',defers:=ds3 })) s.heap.length
 have hsame:∀ id,z0e (z0o (z0o sc.heap s.heap.length (.loop .exhausted pd gc' pos' nt env)) s.heap.length .dead) id=z0e (z0o sc.heap s.heap.length .dead) id:=by
  intro id
  by_cases e:s.heap.length=id
  ·subst e; rw [z0b,z0b]
  ·rw [z0a _ _ _ _ e,z0a _ _ _ _ e,z0a _ _ _ _ e]
 have hh6:=hh5.ext hsame
 have hx:Ext (· <s.heap.length) ρ s.heap w ρ3 (z0o sc.heap s.heap.length .dead) (World.setObj w3 w1.heap.size (.loop { state:= .exhausted,pending:=pd,fn:=fid3,tmps:=tm3,params:=ps',assign:=asg',body:=body',defers:=ds3 })):=by
  have:=((hx02.trans (hx3.mono (S':=(· <s.heap.length)) (fun id (h:id<s.heap.length)=>by show id<s.heap.length+1; omega))).trans hx4).trans hx5
  exact ⟨this.os,this.tape,this.output,by rw [←z25 hsame]; exact this.keep,this.rho,this.fr,this.frs⟩
 have hx345:z5m (z0k ρ3 sc.heap) (z0k ρ3 (z0o sc.heap s.heap.length .dead)) w3 (World.setObj w3 w1.heap.size (.loop { state:= .exhausted,pending:=pd,fn:=fid3,tmps:=tm3,params:=ps',assign:=asg',body:=body',defers:=ds3 })):=by
  have:=(hx4.trans hx5).keep
  rw [z25 hsame] at this
  exact this
 have hst':z10 P ρ3 ⟨sc.env,z0o sc.heap s.heap.length .dead,sc.nt⟩ tm (World.setObj w3 w1.heap.size (.loop { state:= .exhausted,pending:=pd,fn:=fid3,tmps:=tm3,params:=ps',assign:=asg',body:=body',defers:=ds3 })):=
  ⟨hh6,fun t=>(hst3.env t).keep hx345 (fun _ _ h=>h),hst3.size,fun id hid=>by
   have:=hdm3 id hid
   have:=(z11 sc.heap s.heap.length .dead).1
   show id<(z0o sc.heap s.heap.length .dead).length
   omega⟩
 have hdf:z3j b.roundOf B ρ3.fr (World.setObj w3 w1.heap.size (.loop { state:= .exhausted,pending:=pd,fn:=fid3,tmps:=tm3,params:=ps',assign:=asg',body:=body',defers:=ds3 })) (mark++ds):=
  (((hmark.keep hh1 hx2).keep hh2 hx3).keep hh3 hx4)
 have hall:Steps P (lone (b.on tm ds (.code (.rangeFunc f ps asg body)::k)) cs w) (lone (b.on tm (mark++ds) ((pd.map Item.code).toList++k)) cs (World.setObj w3 w1.heap.size (.loop { state:= .exhausted,pending:=pd,fn:=fid3,tmps:=tm3,params:=ps',assign:=asg',body:=body',defers:=ds3 }))):=
  .head (y2e hrun1 hexec) (Steps.trans hsteps (.head (step_leave_returned hlv) (.one (y30 hel))))
 have hxn:=hx.mono (S':=(· <n)) (fun id (h:id<n)=>by show id<s.heap.length; omega)
 unfold z6g at haf
 split at haf
 ·cases haf; exact ⟨.normal,_,ρ3,tm,mark++ds,_,hQ,hst',hdf,hnt3,hxn,hall⟩
 ·cases haf; exact ⟨.ret,_,ρ3,tm,mark++ds,_,hQ,hst',hdf,hnt3,hxn,_,hall⟩
 ·cases haf; exact ⟨.exit _,_,ρ3,tm,mark++ds,_,hQ,hst',hdf,hnt3,hxn,k,rfl,hall⟩
 ·cases haf⟩
end
end Go.Am
end
section
namespace Go.Am
theorem osN {n:Nat} {ops:Array Oper} {i:Nat} {rest:List Nat} {s:AS} {Q:AS→Prop} {o:Oper} {dst:Option Tmp} {op:Op} (ho:ops[i]?=some o∧o.dst=dst∧o.op=op∧o.guard=none) (hn:n≤s.heap.length)
  {q:Bool} {r:List D} {ra:List AV} {res:Res} (hw:(z1b std E34.T s.env s.heap op).ok q r ra) (hs:z0j std E34.T s.env s.heap s.heap.length q r ra op=some res) (hc:res.c=true) (hd:z4x s.nt dst=true)
  (h:z4v P34 n ops rest (z5p s dst res.v res.u) Q):z4v P34 n ops (i::rest) s Q:=by
 obtain ⟨h1,rfl,rfl,hg⟩:=ho
 exact y4b x3r h1 (by rw [hg]; rfl) hn hw hs hc hd h
theorem rgN {n g:Nat} {c:Code} {pos:List Bool} {ss:SS} {e:AX} {ss':SS} (hcd:z07 P34 g pos=some c) (hn:n≤ss.s.heap.length) (h:sym opt std E34 (w1g opt) 20 (AX×SS) n g pos c ss (fun e s=>some (e,s))=some (e,ss')):
  z2u P34 n c ss.s (fun e' s2=>e'=e∧s2=ss'.s):=by
 obtain ⟨e0,s0,_,hc,hk⟩:=y5y w8u y4c 20 (AX×SS) n g pos c ss _ _ hcd hn h
 cases hk; exact hc
noncomputable abbrev y37 (n g:Nat) (pos:List Bool) (env:List (Nat×AV)) (h:List AO) (nt:Nat):Option (AX×SS):=sym opt std E34 (w1g opt) 20 (AX×SS) n g pos (cdF g pos) ⟨⟨env,h,nt⟩,[]⟩ fun e s=>some (e,s)
theorem s48:cdF 48 []= .seq (.region 0 (z2v 48 [false]) false) (.seq (.region 1 (z2v 48 [false,true]) false) .ret):=by kernel_rfl
theorem fn48:∃ fn,P34.funcs[48]?=some fn∧fn.body=some (cdF 48 [])∧fn.ntmps=4∧fn.results.toList=[.tmp 2]:=by
 have:(P34.funcs[48]?.map fun fn=>(fn.body,fn.ntmps,fn.results.toList))=some (some (cdF 48 []),4,[.tmp 2]):=by kernel_rfl
 cases hq:P34.funcs[48]? with
 |none=>rw [hq] at this; cases this
 |some fn=>
  rw [hq] at this
  simp only [Option.map_some,Option.some.injEq,Prod.mk.injEq] at this
  exact ⟨fn,rfl,this.1,this.2.1,this.2.2⟩
theorem v3u:(E34.T 85).map (fun t=>(t.size,t.agg,t.zero))=some (1,false,[.nilp]):=by kernel_rfl
theorem v8o {env:List (Nat×AV)} {h:List AO} {new a F:Nat} (ha:z0r env a= .bptr F 0):z0j std E34.T env h new false [] [] (.box 85 (.tmp a))=some ⟨true, .bptr new 0,[(new, .box [.bptr F 0])]⟩:=by
 cases ht:E34.T 85 with
 |none=>have:=v3u; rw [ht] at this; cases this
 |some ti=>
  have h1:=v3u
  rw [ht] at h1
  simp only [Option.map_some,Option.some.injEq,Prod.mk.injEq] at h1
  obtain ⟨s,b,a',z,d,q⟩:=ti
  simp only at h1
  obtain ⟨rfl,rfl,rfl⟩:=h1
  simp only [z0j,ht,z0n,ha]
  rfl
theorem v3b {h:List AO} {F:Nat}:z6m P34 48 [.bptr F 0] h (.clo (.func 78) [] [.bptr h.length 0]) (z0o h h.length (.box [.bptr F 0])):=by
 obtain ⟨fn,hf,hb,hnt,hres⟩:=fn48
 refine z23 x3r hf hb hnt (by show 1≤4; omega) ?_
 rw [hres,s48]
 have r0:List.range (z2v 48 [false]).size=[0,1]:=by kernel_rfl
 have r1:List.range (z2v 48 [false,true]).size=[0,1]:=by kernel_rfl
 obtain ⟨w0,o0⟩:=z05 (g:=48) (p:=[false]) (i:=0) (dst:=some 1) (op:= .box 85 (.tmp 0)) (by kernel_rfl)
 obtain ⟨w1,o1⟩:=z05 (g:=48) (p:=[false]) (i:=1) (dst:=some 2) (op:= .assign (.const .nilFunc)) (by kernel_rfl)
 obtain ⟨w2,o2⟩:=z05 (g:=48) (p:=[false,true]) (i:=0) (dst:=some 3) (op:= .makeFunc (.func 78) #[] #[.tmp 1]) (by kernel_rfl)
 obtain ⟨w3,o3⟩:=z05 (g:=48) (p:=[false,true]) (i:=1) (dst:=some 2) (op:= .assign (.tmp 3)) (by kernel_rfl)
 refine z0h (z00 ?_)
 rw [r0]
 refine osN o0 (Nat.le_refl _) (q:=false) (r:=[]) (ra:=[]) (res:=⟨true, .bptr h.length 0,[(h.length, .box [.bptr F 0])]⟩) trivial (v8o rfl) rfl rfl ?_
 have hl:h.length≤(z0o h h.length (.box [.bptr F 0])).length:=by rw [z1c]; omega
 show z4v P34 _ _ [1] ⟨[(0, .bptr F 0),(1, .bptr h.length 0)],z0o h h.length (.box [.bptr F 0]),4⟩ _
 generalize z0o h h.length (.box [.bptr F 0])=H at hl⊢
 refine osN o1 hl (q:=false) (r:=[]) (ra:=[]) (res:=⟨true, .d .nilf,[]⟩) trivial rfl rfl rfl ?_
 refine z1w (z0h (z00 ?_))
 rw [r1]
 refine osN o2 hl (q:=false) (r:=[]) (ra:=[]) (res:=⟨true, .clo (.func 78) [] [.bptr h.length 0],[]⟩) trivial rfl rfl rfl ?_
 refine osN o3 hl (q:=false) (r:=[]) (ra:=[]) (res:=⟨true, .clo (.func 78) [] [.bptr h.length 0],[]⟩) trivial rfl rfl rfl ?_
 refine z1w (y8j ⟨.inr rfl,rfl,rfl⟩)
theorem w2i:z13 P34 48:=enters_auto (b:=_) rfl (by kernel_rfl)
theorem w8m:(E34.T 61).map (fun t=>(t.size,t.agg,t.zero))=some (1,false,[.nilp]):=by kernel_rfl
theorem w8f {env:List (Nat×AV)} {h:List AO} {new:Nat}:z0j std E34.T env h new false [] [] (.alloc 61)=some ⟨true, .bptr new 0,[(new, .box [.d .nilp])]⟩:=by
 cases ht:E34.T 61 with
 |none=>have:=w8m; rw [ht] at this; cases this
 |some ti=>
  have h1:=w8m
  rw [ht] at h1
  simp only [Option.map_some,Option.some.injEq,Prod.mk.injEq] at h1
  have e:z0j std E34.T env h new false [] [] (.alloc 61)=z7a std ti new:=by simp only [z0j,ht]
  rw [e]
  obtain ⟨s,b,a,z,d,q⟩:=ti
  simp only at h1
  obtain ⟨rfl,rfl,rfl⟩:=h1
  rfl
theorem w5d {env:List (Nat×AV)} {h:List AO} {new a c id:Nat} {x:AV} (hx:z1y x=some [x]∧z5r [x]=true) (ha:z0r env a= .bptr id 0) (hc:z0r env c=x) (hh:z0e h id= .box [.d .nilp]):
  z0j std E34.T env h new false [] [] (.store 61 (.tmp a) (.tmp c))=some ⟨true, .bot,[(id, .box [x])]⟩:=by
 cases ht:E34.T 61 with
 |none=>have:=w8m; rw [ht] at this; cases this
 |some ti=>
  have h1:=w8m
  rw [ht] at h1
  simp only [Option.map_some,Option.some.injEq,Prod.mk.injEq] at h1
  obtain ⟨s,b,a',z,d,q⟩:=ti
  simp only at h1
  obtain ⟨rfl,rfl,rfl⟩:=h1
  simp only [z0j,ht,z0n,ha,hc,z2e,hx.1,hx.2,z1m,hh]
  rfl
theorem x71 {env:List (Nat×AV)} {h:List AO} {new a id x:Nat} (ha:z0r env a= .bptr id 0) (hh:z0e h id= .box [.bptr x 0]):
  z0j std E34.T env h new false [] [] (.load 61 (.tmp a))=some ⟨true, .bptr x 0,[]⟩:=by
 cases ht:E34.T 61 with
 |none=>have:=w8m; rw [ht] at this; cases this
 |some ti=>
  have h1:=w8m
  rw [ht] at h1
  simp only [Option.map_some,Option.some.injEq,Prod.mk.injEq] at h1
  simp only [z0j,z0n,ha,ht,z5n,z1n,hh,h1.1,h1.2.1]
  rfl
def x6d:List Bool:=[false,true]
theorem x7i {N J S e:Int} {V:List (List D)} {r0:AV} {hT:List AO} (har:z6m P34 46 [y15 N J S V] [] (.tuple [r0, .d (.int .i64 e)]) hT) (hx:z1y (z5e (z1d [] 1) r0)=some [z5e (z1d [] 1) r0]∧z5r [z5e (z1d [] 1) r0]=true)
  {Q:AS→Prop} (hQ:Q ⟨[(1, .bptr 0 0),(2, .d (.list true 0 [])),(3, .d (.int .i64 0)),(4, .bptr (z1g (z1d [] 1) [.box (bkC N J S V)] 0 hT).length 0),(5, .d (.int .i64 e))],
   z0o (z0o (z1g (z1d [] 1) [.box (bkC N J S V)] 0 hT) (z1g (z1d [] 1) [.box (bkC N J S V)] 0 hT).length (.box [.d .nilp])) (z1g (z1d [] 1) [.box (bkC N J S V)] 0 hT).length (.box [z5e (z1d [] 1) r0]),69⟩):
  z4v P34 0 (z2v 17 x6d) (List.range (z2v 17 x6d).size) ⟨[(0,y15 N J S V),(1, .bptr 0 0),(2, .d (.list true 0 [])),(3, .d (.int .i64 0))],[.box (bkC N J S V)],69⟩ (fun s=>∃ s',z2a 0 s s'∧Q s'):=by
 have hr:List.range (z2v 17 x6d).size=[0,1,2,3,4,5,6,7]:=by kernel_rfl
 obtain ⟨w0,o0⟩:=z05 (g:=17) (p:=x6d) (i:=0) (dst:=some 12) (op:= .load 24 (.tmp 1)) (by kernel_rfl)
 obtain ⟨w1,o1⟩:=z05 (g:=17) (p:=x6d) (i:=1) (dst:=some 13) (op:= .call ⟨.value (.func 46),#[.tmp 12],#[24]⟩) (by kernel_rfl)
 obtain ⟨w2,o2⟩:=z05 (g:=17) (p:=x6d) (i:=2) (dst:=some 11) (op:= .move (.tmp 13)) (by kernel_rfl)
 obtain ⟨w3,o3⟩:=z05 (g:=17) (p:=x6d) (i:=3) (dst:=some 14) (op:= .extract (.tmp 11) 0) (by kernel_rfl)
 obtain ⟨w4,o4⟩:=z05 (g:=17) (p:=x6d) (i:=4) (dst:=some 15) (op:= .extract (.tmp 11) 1) (by kernel_rfl)
 obtain ⟨w5,o5⟩:=z05 (g:=17) (p:=x6d) (i:=5) (dst:=some 4) (op:= .alloc 61) (by kernel_rfl)
 obtain ⟨w6,o6⟩:=z05 (g:=17) (p:=x6d) (i:=6) (dst:=none) (op:= .store 61 (.tmp 4) (.tmp 14)) (by kernel_rfl)
 obtain ⟨w7,o7⟩:=z05 (g:=17) (p:=x6d) (i:=7) (dst:=some 5) (op:= .assign (.tmp 15)) (by kernel_rfl)
 rw [hr]
 refine z3w o0 (q:=false) (r:=[]) (ra:=[]) (res:=⟨true,y15 N J S V,[]⟩) trivial (u0h rfl rfl) rfl rfl ?_
 refine x29 o1 x3y (r:=z5e (z1d [] 1) (.tuple [r0, .d (.int .i64 e)])) (x4c (Nat.zero_le _) (fun x hx=>by
  have hx:x∈[y15 N J S V]:=hx
  rw [List.mem_singleton] at hx
  exact ⟨_,hx⟩) har) rfl ?_
 have er:z5e (z1d [] 1) (.tuple [r0, .d (.int .i64 e)])= .tuple [z5e (z1d [] 1) r0, .d (.int .i64 e)]:=rfl
 rw [er]
 show z4v P34 0 _ [2,3,4,5,6,7] ⟨_,z1g (z1d [] 1) [.box (bkC N J S V)] 0 hT,69⟩ _
 generalize z5e (z1d [] 1) r0=x at hQ hx⊢
 generalize z1g (z1d [] 1) [.box (bkC N J S V)] 0 hT=H at hQ⊢
 refine z3w o2 (q:=false) (r:=[]) (ra:=[]) (res:=⟨true, .tuple [x, .d (.int .i64 e)],[]⟩) trivial rfl rfl rfl ?_
 refine z3w o3 (q:=false) (r:=[]) (ra:=[]) (res:=⟨true,x,[]⟩) trivial rfl rfl rfl ?_
 refine z3w o4 (q:=false) (r:=[]) (ra:=[]) (res:=⟨true, .d (.int .i64 e),[]⟩) trivial rfl rfl rfl ?_
 refine z3w o5 (q:=false) (r:=[]) (ra:=[]) (res:=⟨true, .bptr H.length 0,[(H.length, .box [.d .nilp])]⟩) trivial w8f rfl rfl ?_
 have hM:z0e (z0o H H.length (.box [.d .nilp])) H.length= .box [.d .nilp]:=z0b _ _ _
 refine z3w o6 (q:=false) (r:=[]) (ra:=[]) (res:=⟨true, .bot,[(H.length, .box [x])]⟩) (x2p rfl hM) (w5d hx rfl rfl hM) rfl rfl ?_
 refine z3w o7 (q:=false) (r:=[]) (ra:=[]) (res:=⟨true, .d (.int .i64 e),[]⟩) trivial rfl rfl rfl ?_
 refine z1w ⟨_,z2a.env (n:=0) (s:=⟨_,_,69⟩) (z06 fun x hx=>?_),hQ⟩
 simp only [List.mem_cons,List.not_mem_nil,or_false] at hx
 rcases hx with rfl|rfl|rfl|rfl|rfl<;>rfl
end Go.Am
end
section
namespace Go.Am
def w60 (N:Int):List D:= .int .i64 N::List.replicate 100 (.int .i64 0)
theorem v9s:(E34.T 75).map (fun t=>(t.size,t.agg))=some (101,true):=by kernel_rfl
theorem w8e {env:List (Nat×AV)} {h:List AO} {new:Nat}:z0j std E34.T env h new false [] [] (.alloc 75)=some ⟨true, .bptr new 0,[(new, .row (std.rep 101 [.int .i64 0]))]⟩:=by kernel_rfl
theorem w77 {a:Nat} {N:Int} {env:List (Nat×AV)} {h:List AO} {new:Nat} (ha:z0r env a= .d (.int .i64 N)):
  z0j std E34.T env h new false [] [] (.build 75 #[(0, .tmp a)])=some ⟨true, .d (.agg (w60 N)),[]⟩:=by
 have e:z0j std E34.T env h new false [] [] (.build 75 #[(0, .tmp a)])=z0j std E34.T [(0, .d (.int .i64 N))] h new false [] [] (.build 75 #[(0, .tmp 0)]):=by
  simp only [z0j]
  show (match E34.T 75 with|some ti=>z53 ti [(0,z0r env a)]|none=>none)=_
  rw [ha]; rfl
 exact e.trans (by kernel_rfl)
theorem w5c {env:List (Nat×AV)} {h:List AO} {new a c F:Nat} {N:Int} {y:D} (ha:z0r env a= .bptr F 0) (hc:z0r env c= .d (.agg (w60 N))) (hh:z0e h F= .row (std.rep 101 [.int .i64 0])):
  z0j std E34.T env h new false [y] [] (.store 75 (.tmp a) (.tmp c))=some ⟨true, .bot,[(F, .row (fld N (fun _ _=>false)))]⟩:=by
 cases ht:E34.T 75 with
 |none=>have:=v9s; rw [ht] at this; cases this
 |some ti=>
  have h1:=v9s
  rw [ht] at h1
  simp only [Option.map_some,Option.some.injEq,Prod.mk.injEq] at h1
  obtain ⟨s,b,a',z,d,q⟩:=ti
  simp only at h1
  obtain ⟨rfl,rfl⟩:=h1
  simp only [z0j,ht,z0n,ha,hc,z2e,z1y,z1m,hh]
  rfl
theorem w40 {env:List (Nat×AV)} {h:List AO} {t:TypeId} {a c F off:Nat} {es:List (List D)} {y:D} (ha:z0r env a= .bptr F off) (hh:z0e h F= .row es) (he:es[off]?=some [y]):(z1b std E34.T env h (.store t (.tmp a) (.tmp c))).ok false [y] []:=by
 simp only [z1b,z0n,ha,z24,hh,y3h.ok]
 intro j x hx
 match j,hx with
 |0,hx=>cases hx; exact ⟨[y],he,z7g _⟩
 |j+1,hx=>simp at hx
def x6c:List Bool:=[false,true,true,true]
theorem w52 {N J S:Int} {V:List (List D)} {v:AV} {h:List AO} {P:Nat} (hP:z0e h P= .box [.bptr 2 0]) (h2:z0e h 2= .box (bkC N J S V++[v]))
  {Q:AS→Prop} (hQ:Q ⟨[(4, .bptr P 0),(6, .bptr h.length 0)],z0o (z0o h h.length (.row (std.rep 101 [.int .i64 0]))) h.length (.row (fld N (fun _ _=>false))),69⟩):
  z4v P34 0 (z2v 17 x6c) (List.range (z2v 17 x6c).size) ⟨[(4, .bptr P 0)],h,69⟩ (fun s=>∃ s',z2a 0 s s'∧Q s'):=by
 have hr:List.range (z2v 17 x6c).size=[0,1,2,3,4,5,6,7]:=by kernel_rfl
 obtain ⟨w0,o0⟩:=z05 (g:=17) (p:=x6c) (i:=0) (dst:=some 19) (op:= .load 61 (.tmp 4)) (by kernel_rfl)
 obtain ⟨w1,o1⟩:=z05 (g:=17) (p:=x6c) (i:=1) (dst:=some 20) (op:= .nilCheck (.tmp 19)) (by kernel_rfl)
 obtain ⟨w2,o2⟩:=z05 (g:=17) (p:=x6c) (i:=2) (dst:=some 21) (op:= .fieldAddr 66 (.tmp 20) 0) (by kernel_rfl)
 obtain ⟨w3,o3⟩:=z05 (g:=17) (p:=x6c) (i:=3) (dst:=some 22) (op:= .fieldAddr 24 (.tmp 21) 0) (by kernel_rfl)
 obtain ⟨w4,o4⟩:=z05 (g:=17) (p:=x6c) (i:=4) (dst:=some 23) (op:= .load 3 (.tmp 22)) (by kernel_rfl)
 obtain ⟨w5,o5⟩:=z05 (g:=17) (p:=x6c) (i:=5) (dst:=some 24) (op:= .build 75 #[(0, .tmp 23)]) (by kernel_rfl)
 obtain ⟨w6,o6⟩:=z05 (g:=17) (p:=x6c) (i:=6) (dst:=some 6) (op:= .alloc 75) (by kernel_rfl)
 obtain ⟨w7,o7⟩:=z05 (g:=17) (p:=x6c) (i:=7) (dst:=none) (op:= .store 75 (.tmp 6) (.tmp 24)) (by kernel_rfl)
 rw [hr]
 refine z3w o0 (q:=false) (r:=[]) (ra:=[]) (res:=⟨true, .bptr 2 0,[]⟩) (z2r rfl hP) (x71 rfl hP) rfl rfl ?_
 refine z3w o1 (q:=false) (r:=[]) (ra:=[]) (res:=⟨true, .bptr 2 0,[]⟩) trivial rfl rfl rfl ?_
 refine z3w o2 (q:=false) (r:=[]) (ra:=[]) (res:=⟨true, .bptr 2 0,[]⟩) trivial (by kernel_rfl) rfl rfl ?_
 refine z3w o3 (q:=false) (r:=[]) (ra:=[]) (res:=⟨true, .bptr 2 0,[]⟩) trivial (by kernel_rfl) rfl rfl ?_
 refine z3w o4 (q:=false) (r:=[]) (ra:=[]) (res:=⟨true, .d (.int .i64 N),[]⟩) (z2r rfl h2) (ld3 rfl h2 rfl) rfl rfl ?_
 refine z3w o5 (q:=false) (r:=[]) (ra:=[]) (res:=⟨true, .d (.agg (w60 N)),[]⟩) trivial (w77 rfl) rfl rfl ?_
 refine z3w o6 (q:=false) (r:=[]) (ra:=[]) (res:=⟨true, .bptr h.length 0,[(h.length, .row (std.rep 101 [.int .i64 0]))]⟩) trivial w8e rfl rfl ?_
 have hF:z0e (z0o h h.length (.row (std.rep 101 [.int .i64 0]))) h.length= .row (std.rep 101 [.int .i64 0]):=z0b _ _ _
 refine z3w o7 (q:=false) (r:=[.int .i64 0]) (ra:=[]) (res:=⟨true, .bot,[(h.length, .row (fld N (fun _ _=>false)))]⟩) (w40 (y:= .int .i64 0) rfl hF rfl) (w5c rfl rfl hF) rfl rfl ?_
 refine z1w ⟨_,z2a.env (n:=0) (s:=⟨_,_,69⟩) (z06 fun x hx=>?_),hQ⟩
 simp only [List.mem_cons,List.not_mem_nil,or_false] at hx
 rcases hx with rfl|rfl<;>rfl
def w8r:List Bool:=[false,false,true,true,true,true]
theorem w50 {h:List AO} {P F:Nat} {Q:AS→Prop} (hQ:Q ⟨[(4, .bptr P 0),(6, .bptr F 0),(25, .clo (.func 78) [] [.bptr h.length 0])],z0o h h.length (.box [.bptr F 0]),69⟩):
  z4v P34 0 (z2v 17 w8r) (List.range (z2v 17 w8r).size) ⟨[(4, .bptr P 0),(6, .bptr F 0)],h,69⟩ Q:=by
 have hr:List.range (z2v 17 w8r).size=[0]:=by kernel_rfl
 obtain ⟨w0,o0⟩:=z05 (g:=17) (p:=w8r) (i:=0) (dst:=some 25) (op:= .call ⟨.value (.func 48),#[.tmp 6],#[75]⟩) (by kernel_rfl)
 rw [hr]
 exact x29 o0 w2i (z4f.of_aret (s:=⟨_,h,69⟩) (Nat.zero_le _) (v3b (h:=h) (F:=F))) rfl (z1w hQ)
end Go.Am
end
section
namespace Go.Am
def R17:List Bool:=[false,true,false,true,true,true,true]
def X17:List Bool:=[false,true]++R17
def Y17:List Bool:=[true,false,true]++R17
def Z17:List Bool:=[false,false,true,false]++Y17
def W17:List Bool:=[false,false,true,true]++Z17
def x98:List Bool:=[false,false]++Y17
def y92:List Bool:=false::W17
def z58:List Bool:=[false,true]++W17
def y2u:List Bool:=[false,true,true]++W17
def z7k:List Bool:=[false,true,true]++Y17
def z7j:List Bool:=[true,true,true]++Y17
theorem v9x:z07 P34 17 R17=some (.rangeFunc (.tmp 25) #[26] (.region 6 (z2v 17 (false::R17)) false) (.block 1 (cdF 17 X17))):=by kernel_rfl
theorem sX17:cdF 17 X17= .seq (cdF 17 (false::X17)) (.seq (.seq (.region 8 (z2v 17 x98) false) (.block 2 (.loop (cdF 17 Z17)))) (.seq (cdF 17 ([false,true]++Y17)) (.cond (.tmp 53) (.region 15 (z2v 17 z7k) true) (.region 16 (z2v 17 z7j) true)))):=by kernel_rfl
theorem sZ17:cdF 17 Z17= .seq (cdF 17 (false::Z17)) (.seq (.cond (.tmp 33) .skip (.exit 2)) (.seq (.block 3 (.seq (.region 10 (z2v 17 y92) false) (.seq (.region 11 (z2v 17 z58) true) (.cond (.tmp 44) (.region 12 (z2v 17 y2u) false) .skip)))) (cdF 17 ([true,true,true]++Z17)))):=by kernel_rfl
theorem x8r {h:List AO} {z:Nat} {m:JM} (hz:z0e h z= .map (EJ.enc m)) (k:Int×Int):z3b std w81 h (.map z) (.d (EJ.ke k))=some ((y82 m k 0).map fun x=>(x.1,EJ.ve x.2)):=by
 have h1:=y1a y1j k m 0
 have h2:=y1j.agg k
 have h3:=y1j.kinds k
 simp only [z3b,w81,hz]
 have e1:(z1p (EJ.ke k)==true&&z1f [SK.i,SK.i] (z01 (EJ.ke k)))=true:=by
  rw [show z1p (EJ.ke k)=true from h2,show z1f [SK.i,SK.i] (z01 (EJ.ke k))=true from h3]; rfl
 rw [e1,cond_true]
 have e2:=x3u [SK.i,SK.i] true (EJ.ke k) (EJ.enc m) 0
 rw [e2]
 exact h1
theorem w1m {env:List (Nat×AV)} {h:List AO} {new a c z:Nat} {m:JM} {k:Int×Int} (ha:z0r env a= .map z) (hz:z0e h z= .map (EJ.enc m)) (hc:z0r env c= .d (.agg [.int .i64 k.1, .int .i64 k.2])):
  ∃ q r,(z1b std E34.T env h (.lookup 67 (.tmp a) (.tmp c) false)).ok q r []∧z0j std E34.T env h new q r [] (.lookup 67 (.tmp a) (.tmp c) false)=some ⟨true, .d (.int .i64 ((z3g m k).getD 0)),[]⟩:=by
 have hf:=x8r hz k
 have hke:EJ.ke k= .agg [.int .i64 k.1, .int .i64 k.2]:=rfl
 rw [hke] at hf
 have hv:=z9p k m 0
 cases hi:y82 m k 0 with
 |none=>
  rw [hi] at hf hv
  rw [←hv]
  refine ⟨false,[],?_,?_⟩
  ·simp only [z1b,z0n,ha,hc,z9r,w43,hf,y3h.ok]
   first
    |exact .inl ⟨rfl,rfl⟩
    |exact .inl ⟨trivial,trivial⟩
    |simp
  ·simp only [z0j,w43]
   rfl
 |some x=>
  obtain ⟨i,v⟩:=x
  rw [hi] at hf hv
  rw [←hv]
  refine ⟨true,[.int .i64 (i:Nat),EJ.ve v],?_,?_⟩
  ·simp only [z1b,z0n,ha,hc,z9r,w43,hf,y3h.ok]
   refine .inr ⟨i,EJ.ve v,EJ.ve v,?_, .inl (.refl _),?_,rfl⟩<;>first|rfl|trivial
  ·simp only [z0j,w43]
   rfl
structure y21 (h:List AO) (N S:Int) (V:List (List D)) (n:Nat) (f:Nat→JM×JM) (P F M:Nat) (i k:Int) (g:Nat→Nat→Bool):Prop where
 fam:x6f h 1 N n S V n f
 hP:z0e h P= .box [.bptr 2 0]
 hF:z0e h F= .row (fld N g)
 hM:z0e h M= .box [.d (.int .i64 i), .d (.int .i64 k)]
 l1:1+(2+4*n)≤P
 l2:P<F
 l3:F<M
 l4:M<h.length
theorem y21.keep {h h':List AO} {N S:Int} {V:List (List D)} {n:Nat} {f:Nat→JM×JM} {P F M:Nat} {i k:Int} {g:Nat→Nat→Bool} (hf:y21 h N S V n f P F M i k g) (hl:h.length≤h'.length) (hk:∀ j,1≤j→j<h.length→z0e h' j=z0e h j):y21 h' N S V n f P F M i k g:=by
 have a1:=hf.l1
 have a2:=hf.l2
 have a3:=hf.l3
 have a4:=hf.l4
 have a0:=hf.fam.len
 refine ⟨hf.fam.keep hl fun j h1 h2=>hk j (by omega) (by omega),?_,?_,?_,a1,a2,a3,by omega⟩
 ·rw [hk _ (by omega) (by omega)]; exact hf.hP
 ·rw [hk _ (by omega) (by omega)]; exact hf.hF
 ·rw [hk _ (by omega) (by omega)]; exact hf.hM
def x1z (P F M:Nat) (s:Int):List (Nat×AV):=[(4, .bptr P 0),(6, .bptr F 0),(7, .bptr M 0),(8, .d (.int .i64 s))]
def z5u (P F M n:Nat) (s j:Int):List (Nat×AV):=[(4, .bptr P 0),(6, .bptr F 0),(7, .bptr M 0),(8, .d (.int .i64 s)),(30,slN 1 n),(31, .d (.int .i64 (n:Int))),(32, .d (.int .i64 j))]
theorem y03 {P F M n:Nat} {s j:Int} {env:List (Nat×AV)} (h4:z0r env 4= .bptr P 0) (h6:z0r env 6= .bptr F 0) (h7:z0r env 7= .bptr M 0) (h8:z0r env 8= .d (.int .i64 s)) (h30:z0r env 30=slN 1 n) (h31:z0r env 31= .d (.int .i64 (n:Int))) (h32:z0r env 32= .d (.int .i64 j)):
  y23 (z5u P F M n s j) env:=by
 refine z06 fun x hx=>?_
 simp only [z5u,List.mem_cons,List.not_mem_nil,or_false] at hx
 rcases hx with rfl|rfl|rfl|rfl|rfl|rfl|rfl
 ·exact h4
 ·exact h6
 ·exact h7
 ·exact h8
 ·exact h30
 ·exact h31
 ·exact h32
theorem w5v {m:Nat} {h:List AO} (hm:m≤h.length) {N S:Int} {V:List (List D)} {n:Nat} (h0:0<n) {f:Nat→JM×JM} {P F M:Nat} {i k:Int} {g:Nat→Nat→Bool} (hf:y21 h N S V n f P F M i k g) {s:Int}
  {Q:AS→Prop} (hQ:Q ⟨z5u P F M n s ((0:Nat):Int),h,69⟩):
  z4v P34 m (z2v 17 x98) (List.range (z2v 17 x98).size) ⟨x1z P F M s,h,69⟩ (fun s=>∃ s',z2a m s s'∧Q s'):=by
 have hr:List.range (z2v 17 x98).size=[0,1,2,3,4,5]:=by kernel_rfl
 obtain ⟨w0,o0⟩:=z05 (g:=17) (p:=x98) (i:=0) (dst:=some 27) (op:= .load 61 (.tmp 4)) (by kernel_rfl)
 obtain ⟨w1,o1⟩:=z05 (g:=17) (p:=x98) (i:=1) (dst:=some 28) (op:= .nilCheck (.tmp 27)) (by kernel_rfl)
 obtain ⟨w2,o2⟩:=z05 (g:=17) (p:=x98) (i:=2) (dst:=some 29) (op:= .fieldAddr 66 (.tmp 28) 1) (by kernel_rfl)
 obtain ⟨w3,o3⟩:=z05 (g:=17) (p:=x98) (i:=3) (dst:=some 30) (op:= .load 64 (.tmp 29)) (by kernel_rfl)
 obtain ⟨w4,o4⟩:=z05 (g:=17) (p:=x98) (i:=4) (dst:=some 31) (op:= .call ⟨.builtin .len,#[.tmp 30],#[64]⟩) (by kernel_rfl)
 obtain ⟨w5,o5⟩:=z05 (g:=17) (p:=x98) (i:=5) (dst:=some 32) (op:= .move (.const (.int .i64 0))) (by kernel_rfl)
 have hb:=hf.fam.b1
 rw [x67 h0] at hb
 rw [hr]
 refine osN o0 hm (q:=false) (r:=[]) (ra:=[]) (res:=⟨true, .bptr 2 0,[]⟩) (z2r rfl hf.hP) (x71 rfl hf.hP) rfl rfl ?_
 refine osN o1 hm (q:=false) (r:=[]) (ra:=[]) (res:=⟨true, .bptr 2 0,[]⟩) trivial rfl rfl rfl ?_
 refine osN o2 hm (q:=false) (r:=[]) (ra:=[]) (res:=⟨true, .bptr 2 4,[]⟩) trivial (by kernel_rfl) rfl rfl ?_
 refine osN o3 hm (q:=false) (r:=[]) (ra:=[]) (res:=⟨true,slN 1 n,[]⟩) (z2r rfl hb) (w91 rfl hb rfl) rfl rfl ?_
 refine osN o4 hm (q:=false) (r:=[]) (ra:=[]) (res:=⟨true, .d (.int .i64 (n:Int)),[]⟩) (by exact trivial) (u0g (b:=1) rfl) rfl rfl ?_
 refine osN o5 hm (q:=false) (r:=[]) (ra:=[]) (res:=⟨true, .d (.int .i64 0),[]⟩) trivial rfl rfl rfl ?_
 exact z1w ⟨_,z2a.env (n:=m) (s:=⟨_,_,69⟩) (y03 rfl rfl rfl rfl rfl rfl rfl),hQ⟩
theorem w1b {m:Nat} {h:List AO} (hm:m≤h.length) {N S:Int} {V:List (List D)} {n t:Nat} (ht:t<n) {f:Nat→JM×JM} (hf:x6f h 1 N n S V n f) {P F M:Nat} {s:Int}
  {Q:AS→Prop} (hQ:Q ⟨(10, .bptr h.length 0)::z5u P F M n s (t:Int),z0o (z0o h h.length (.box [.d .nilm, .d .nilm])) h.length (.box [.map (1+(2+4*t)), .map (1+(3+4*t))]),69⟩):
  z4v P34 m (z2v 17 y92) (List.range (z2v 17 y92).size) ⟨z5u P F M n s (t:Int),h,69⟩ (fun s=>∃ s',z2a m s s'∧Q s'):=by
 have hr:List.range (z2v 17 y92).size=[0,1,2,3]:=by kernel_rfl
 obtain ⟨w0,o0⟩:=z05 (g:=17) (p:=y92) (i:=0) (dst:=some 34) (op:= .indexAddr 64 (.tmp 30) (.tmp 32)) (by kernel_rfl)
 obtain ⟨w1,o1⟩:=z05 (g:=17) (p:=y92) (i:=1) (dst:=some 35) (op:= .load 69 (.tmp 34)) (by kernel_rfl)
 obtain ⟨w2,o2⟩:=z05 (g:=17) (p:=y92) (i:=2) (dst:=some 10) (op:= .alloc 69) (by kernel_rfl)
 obtain ⟨w3,o3⟩:=z05 (g:=17) (p:=y92) (i:=3) (dst:=none) (op:= .store 69 (.tmp 10) (.tmp 35)) (by kernel_rfl)
 have harr:=hf.arr (by omega)
 rw [hr]
 refine osN o0 hm (q:=false) (r:=[]) (ra:=[]) (res:=⟨std.cmp .geq (t:Int) 0&&std.cmp .lss (t:Int) (std.ofNat n), .ptr (1+(4*n+1)) t 0,[]⟩) trivial (u0j rfl rfl) (inB ht) rfl ?_
 refine osN o1 hm (q:=false) (r:=[]) (ra:=[.map (1+(2+4*t)), .map (1+(3+4*t))]) (res:=⟨true, .agg [.map (1+(2+4*t)), .map (1+(3+4*t))],[]⟩) (w3q rfl harr (y9w ht)) (w6v rfl harr) rfl rfl ?_
 refine osN o2 hm (q:=false) (r:=[]) (ra:=[]) (res:=⟨true, .bptr h.length 0,[(h.length, .box [.d .nilm, .d .nilm])]⟩) trivial x90 rfl rfl ?_
 have hl:(z0o h h.length (.box [.d .nilm, .d .nilm])).length=h.length+1:=z1c _ _
 have hM:z0e (z0o h h.length (.box [.d .nilm, .d .nilm])) h.length= .box [.d .nilm, .d .nilm]:=z0b _ _ _
 refine osN o3 (by show m≤(z0o h h.length (.box [.d .nilm, .d .nilm])).length; omega) (q:=false) (r:=[]) (ra:=[]) (res:=⟨true, .bot,[(h.length, .box [.map (1+(2+4*t)), .map (1+(3+4*t))])]⟩) (x2p rfl hM) (x6x rfl rfl hM) rfl rfl ?_
 refine z1w ⟨_,z2a.env (n:=m) (s:=⟨_,_,69⟩) (z06 fun x hx=>?_),hQ⟩
 simp only [z5u,List.mem_cons,List.not_mem_nil,or_false] at hx
 rcases hx with rfl|rfl|rfl|rfl|rfl|rfl|rfl|rfl<;>rfl
theorem v3v:(E34.T 80).map (fun t=>(t.size,t.agg,t.zero))=some (2,true,[.int .i64 0, .int .i64 0]):=by kernel_rfl
theorem ld80 {env:List (Nat×AV)} {h:List AO} {new a M:Nat} {i k:Int} (ha:z0r env a= .bptr M 0) (hh:z0e h M= .box [.d (.int .i64 i), .d (.int .i64 k)]):
  z0j std E34.T env h new false [] [] (.load 80 (.tmp a))=some ⟨true, .d (.agg [.int .i64 i, .int .i64 k]),[]⟩:=by
 cases ht:E34.T 80 with
 |none=>have:=v3v; rw [ht] at this; cases this
 |some ti=>
  have h1:=v3v
  rw [ht] at h1
  simp only [Option.map_some,Option.some.injEq,Prod.mk.injEq] at h1
  simp only [z0j,z0n,ha,ht,z5n,z1n,hh,h1.1,h1.2.1]
  rfl
theorem w08 {m:Nat} {h:List AO} (hm:m≤h.length) {P F M L n x y:Nat} {i k:Int} {jm:JM} (hL:z0e h L= .box [.map x, .map y]) (hx:z0e h x= .map (EJ.enc jm)) (hM:z0e h M= .box [.d (.int .i64 i), .d (.int .i64 k)]) {s t:Int}
  {Q:AS→Prop} (hQ:Q ⟨z5u P F M n (std.ar .add .i64 s ((z3g jm (i,k)).getD 0)) t,h,69⟩):
  z4v P34 m (z2v 17 y2u) (List.range (z2v 17 y2u).size) ⟨(10, .bptr L 0)::z5u P F M n s t,h,69⟩ (fun s=>∃ s',z2a m s s'∧Q s'):=by
 have hr:List.range (z2v 17 y2u).size=[0,1,2,3,4,5,6]:=by kernel_rfl
 obtain ⟨w0,o0⟩:=z05 (g:=17) (p:=y2u) (i:=0) (dst:=some 45) (op:= .move (.tmp 8)) (by kernel_rfl)
 obtain ⟨w1,o1⟩:=z05 (g:=17) (p:=y2u) (i:=1) (dst:=some 46) (op:= .fieldAddr 69 (.tmp 10) 0) (by kernel_rfl)
 obtain ⟨w2,o2⟩:=z05 (g:=17) (p:=y2u) (i:=2) (dst:=some 47) (op:= .load 67 (.tmp 46)) (by kernel_rfl)
 obtain ⟨w3,o3⟩:=z05 (g:=17) (p:=y2u) (i:=3) (dst:=some 48) (op:= .load 80 (.tmp 7)) (by kernel_rfl)
 obtain ⟨w4,o4⟩:=z05 (g:=17) (p:=y2u) (i:=4) (dst:=some 49) (op:= .lookup 67 (.tmp 47) (.tmp 48) false) (by kernel_rfl)
 obtain ⟨w5,o5⟩:=z05 (g:=17) (p:=y2u) (i:=5) (dst:=some 50) (op:= .binOp .add 3 (.tmp 45) (.tmp 49) 3) (by kernel_rfl)
 obtain ⟨w6,o6⟩:=z05 (g:=17) (p:=y2u) (i:=6) (dst:=some 8) (op:= .assign (.tmp 50)) (by kernel_rfl)
 rw [hr]
 refine osN o0 hm (q:=false) (r:=[]) (ra:=[]) (res:=⟨true, .d (.int .i64 s),[]⟩) trivial rfl rfl rfl ?_
 refine osN o1 hm (q:=false) (r:=[]) (ra:=[]) (res:=⟨true, .bptr L 0,[]⟩) trivial (by kernel_rfl) rfl rfl ?_
 refine osN o2 hm (q:=false) (r:=[]) (ra:=[]) (res:=⟨true, .map x,[]⟩) (z2r rfl hL) (v5z rfl hL rfl) rfl rfl ?_
 refine osN o3 hm (q:=false) (r:=[]) (ra:=[]) (res:=⟨true, .d (.agg [.int .i64 i, .int .i64 k]),[]⟩) (z2r rfl hM) (ld80 rfl hM) rfl rfl ?_
 obtain ⟨q,r,hw,hs⟩:=w1m (env:=(48, .d (.agg [.int .i64 i, .int .i64 k]))::(47, .map x)::[]) (h:=h) (new:=h.length) (a:=47) (c:=48) (k:=(i,k)) rfl hx rfl
 refine osN o4 hm (q:=q) (r:=r) (ra:=[]) (res:=⟨true, .d (.int .i64 ((z3g jm (i,k)).getD 0)),[]⟩) hw hs rfl rfl ?_
 refine osN o5 hm (q:=false) (r:=[]) (ra:=[]) (res:=⟨true, .d (.int .i64 (std.ar .add .i64 s ((z3g jm (i,k)).getD 0))),[]⟩) trivial (by kernel_rfl) rfl rfl ?_
 refine osN o6 hm (q:=false) (r:=[]) (ra:=[]) (res:=⟨true, .d (.int .i64 (std.ar .add .i64 s ((z3g jm (i,k)).getD 0))),[]⟩) trivial rfl rfl rfl ?_
 exact z1w ⟨_,z2a.env (n:=m) (s:=⟨_,_,69⟩) (y03 rfl rfl rfl rfl rfl rfl rfl),hQ⟩
end Go.Am
end
section
namespace Go.Am
noncomputable def z5q (g:Nat) (p:List Bool) (i:Nat):Oper:=((z2v g p).toList[i]?).getD default
theorem z6s {L b:Nat} (h:L<b):∀ id∈[L],id<b:=by
 intro id hid
 rw [List.mem_singleton] at hid
 subst hid; exact h
theorem w1a {m:Nat} {h:List AO} (hm:m≤h.length) {N S:Int} {V:List (List D)} {n:Nat} {f:Nat→JM×JM} {P F M:Nat} {i k:Int} {g:Nat→Nat→Bool} (hf:y21 h N S V n f P F M i k g) {L x y:Nat} {jm:JM} (hLl:L<h.length) (hyl:y<h.length)
  (hL:z0e h L= .box [.map x, .map y]) (hy:z0e h y= .map (EJ.enc jm)) {s t:Int}
  {Q:AX→AS→Prop} (hQ:Q .normal ⟨(44, .d (.bool (std.cmp .leq (jm.length:Int) S)))::(10, .bptr L 0)::z5u P F M n s t,h,69⟩):
  z2u P34 m (.region 11 (z2v 17 z58) true) ⟨(10, .bptr L 0)::z5u P F M n s t,h,69⟩ (fun e s=>∃ s',z2a m s s'∧Q e s'):=by
 have hl:(z2v 17 z58).toList=[z5q 17 z58 0,z5q 17 z58 1,z5q 17 z58 2,z5q 17 z58 3,z5q 17 z58 4,z5q 17 z58 5,z5q 17 z58 6,z5q 17 z58 7,z5q 17 z58 8]:=by kernel_rfl
 have hb:=hf.fam.b1
 have a1:=hf.l1
 have a2:=hf.l2
 have a3:=hf.l3
 have a4:=hf.l4
 refine y1e (T:=E34.T) follows_mixed x3r hm (by kernel_rfl) (by kernel_rfl) ?_
 rw [hl, ←hl]
 suffices hgoal:DS P34 E34.T (z2v 17 z58).toList 69 h.length (fun s=>∃ s',z2a m s s'∧Q .normal s') [] 0 [z5q 17 z58 0,z5q 17 z58 1,z5q 17 z58 2,z5q 17 z58 3,z5q 17 z58 4,z5q 17 z58 5,z5q 17 z58 6,z5q 17 z58 7,z5q 17 z58 8] ⟨(10, .bptr L 0)::z5u P F M n s t,h,69⟩ by
  rw [←hl] at hgoal; exact hgoal
 refine z8j (dst:=some 36) (op:= .fieldAddr 69 (.tmp 10) 1) ⟨by kernel_rfl,by kernel_rfl,by kernel_rfl⟩ (q:=false) (r:=[]) (ra:=[]) (res:=⟨true, .bptr L 1,[]⟩) (by kernel_rfl) trivial (by kernel_rfl) rfl rfl (by intro id hid; cases hid) ?_
 refine z8j (dst:=some 37) (op:= .load 67 (.tmp 36)) ⟨by kernel_rfl,by kernel_rfl,by kernel_rfl⟩ (q:=false) (r:=[]) (ra:=[]) (res:=⟨true, .map y,[]⟩) (by kernel_rfl) (z2r rfl hL) (v5z rfl hL rfl) rfl rfl (z6s (L:=L) hLl) ?_
 refine z8j (dst:=some 38) (op:= .call ⟨.builtin .len,#[.tmp 37],#[67]⟩) ⟨by kernel_rfl,by kernel_rfl,by kernel_rfl⟩ (q:=false) (r:=[]) (ra:=[]) (res:=⟨true, .d (.int .i64 (jm.length:Int)),[]⟩) (by kernel_rfl) (by exact trivial) (u0f rfl hy) rfl rfl (z6s (L:=y) hyl) ?_
 refine z8j (dst:=some 39) (op:= .load 61 (.tmp 4)) ⟨by kernel_rfl,by kernel_rfl,by kernel_rfl⟩ (q:=false) (r:=[]) (ra:=[]) (res:=⟨true, .bptr 2 0,[]⟩) (by kernel_rfl) (z2r rfl hf.hP) (x71 rfl hf.hP) rfl rfl (z6s (L:=P) (by omega)) ?_
 refine z8j (dst:=some 40) (op:= .nilCheck (.tmp 39)) ⟨by kernel_rfl,by kernel_rfl,by kernel_rfl⟩ (q:=false) (r:=[]) (ra:=[]) (res:=⟨true, .bptr 2 0,[]⟩) (by kernel_rfl) trivial rfl rfl rfl (by intro id hid; cases hid) ?_
 refine z8j (dst:=some 41) (op:= .fieldAddr 66 (.tmp 40) 0) ⟨by kernel_rfl,by kernel_rfl,by kernel_rfl⟩ (q:=false) (r:=[]) (ra:=[]) (res:=⟨true, .bptr 2 0,[]⟩) (by kernel_rfl) trivial (by kernel_rfl) rfl rfl (by intro id hid; cases hid) ?_
 refine z8j (dst:=some 42) (op:= .fieldAddr 24 (.tmp 41) 2) ⟨by kernel_rfl,by kernel_rfl,by kernel_rfl⟩ (q:=false) (r:=[]) (ra:=[]) (res:=⟨true, .bptr 2 2,[]⟩) (by kernel_rfl) trivial (by kernel_rfl) rfl rfl (by intro id hid; cases hid) ?_
 refine z8j (dst:=some 43) (op:= .load 3 (.tmp 42)) ⟨by kernel_rfl,by kernel_rfl,by kernel_rfl⟩ (q:=false) (r:=[]) (ra:=[]) (res:=⟨true, .d (.int .i64 S),[]⟩) (by kernel_rfl) (z2r rfl hb) (ld3 rfl hb rfl) rfl rfl (z6s (L:=2) (by omega)) ?_
 refine z8j (dst:=some 44) (op:= .binOp .leq 3 (.tmp 38) (.tmp 43) 3) ⟨by kernel_rfl,by kernel_rfl,by kernel_rfl⟩ (q:=false) (r:=[]) (ra:=[]) (res:=⟨true, .d (.bool (std.cmp .leq (jm.length:Int) S)),[]⟩) (by kernel_rfl) trivial (by kernel_rfl) rfl rfl (by intro id hid; cases hid) ?_
 refine .nil ⟨_,z2a.env (n:=m) (s:=⟨_,h,69⟩) (z06 fun x hx=>?_),hQ⟩
 simp only [z5u,List.mem_cons,List.not_mem_nil,or_false] at hx
 rcases hx with rfl|rfl|rfl|rfl|rfl|rfl|rfl|rfl|rfl<;>rfl
theorem w98 {env:List (Nat×AV)} {h:List AO} {new a c F i:Nat} {es:List (List D)} (ha:z0r env a= .bptr F 1) (hb:z0r env c= .d (.int .i64 (i:Int))) (hh:z0e h F= .row es):
  z0j std E34.T env h new false [] [] (.indexAddr 73 (.tmp a) (.tmp c))=some ⟨std.cmp .geq (i:Int) 0&&std.cmp .lss (i:Int) (std.ofNat 10), .bptr F (1+i*10),[]⟩:=by
 have e:z0j std E34.T env h new false [] [] (.indexAddr 73 (.tmp a) (.tmp c))=(match E34.T 73 with|some ti=>z1o std std ti h [] (z0r env a) (z0r env c)|none=>none):=by
  simp only [z0j]
  rfl
 rw [e,ha,hb]
 have ht:∃ ti,E34.T 73=some ti∧ti.desc= .arr 10 10 true:=by
  have:(E34.T 73).map (fun t=>t.desc)=some (.arr 10 10 true):=by kernel_rfl
  cases hq:E34.T 73 with
  |none=>rw [hq] at this; cases this
  |some ti=>rw [hq] at this; exact ⟨ti,rfl,Option.some.inj this⟩
 obtain ⟨ti,h1,h2⟩:=ht
 rw [h1]
 simp only [z1o,h2,hh]
 rfl
theorem w99 {env:List (Nat×AV)} {h:List AO} {new a c F off k:Nat} {es:List (List D)} (ha:z0r env a= .bptr F off) (hb:z0r env c= .d (.int .i64 (k:Int))) (hh:z0e h F= .row es):
  z0j std E34.T env h new false [] [] (.indexAddr 72 (.tmp a) (.tmp c))=some ⟨std.cmp .geq (k:Int) 0&&std.cmp .lss (k:Int) (std.ofNat 10), .bptr F (off+k),[]⟩:=by
 have e:z0j std E34.T env h new false [] [] (.indexAddr 72 (.tmp a) (.tmp c))=(match E34.T 72 with|some ti=>z1o std std ti h [] (z0r env a) (z0r env c)|none=>none):=by
  simp only [z0j]
  rfl
 rw [e,ha,hb]
 have ht:∃ ti,E34.T 72=some ti∧ti.desc= .arr 10 1 false:=by
  have:(E34.T 72).map (fun t=>t.desc)=some (.arr 10 1 false):=by kernel_rfl
  cases hq:E34.T 72 with
  |none=>rw [hq] at this; cases this
  |some ti=>rw [hq] at this; exact ⟨ti,rfl,Option.some.inj this⟩
 obtain ⟨ti,h1,h2⟩:=ht
 rw [h1]
 simp only [z1o,h2,hh]
 rfl
theorem w85 {env:List (Nat×AV)} {h:List AO} {new a F off:Nat} {es:List (List D)} {y:D} (ha:z0r env a= .bptr F off) (hh:z0e h F= .row es):
  z0j std E34.T env h new false [y] [] (.store 3 (.tmp a) (.const (.int .i64 1)))=some ⟨true, .bot,[(F, .row (es.set off (eI 1)))]⟩:=by
 cases ht:E34.T 3 with
 |none=>have:=ty3; rw [ht] at this; cases this
 |some ti=>
  have h1:=ty3
  rw [ht] at h1
  simp only [Option.map_some,Option.some.injEq,Prod.mk.injEq] at h1
  obtain ⟨s,b,a',z,d,q⟩:=ti
  simp only at h1
  obtain ⟨rfl,rfl,rfl⟩:=h1
  have e:z0n env (.const (.int .i64 1))= .d (.int .i64 1):=rfl
  have e2:z0n env (.tmp a)= .bptr F off:=ha
  simp only [z0j,ht,e,e2,z2e,z1y,z1m,hh]
  rfl
end Go.Am
end
section
namespace Go.Am
theorem x2q {env:List (Nat×AV)} {h:List AO} {t:TypeId} {a F off:Nat} {c:Operand} {es:List (List D)} {y:D} (ha:z0r env a= .bptr F off) (hh:z0e h F= .row es) (he:es[off]?=some [y]):(z1b std E34.T env h (.store t (.tmp a) c)).ok false [y] []:=by
 simp only [z1b,z0n,ha,z24,hh,y3h.ok]
 intro j x hx
 match j,hx with
 |0,hx=>cases hx; exact ⟨[y],he,z7g _⟩
 |j+1,hx=>simp at hx
theorem w06 {m:Nat} {h:List AO} (hm:m≤h.length) {N:Int} {F M:Nat} {i k:Nat} (hi:i<10) (hk:k<10) {g:Nat→Nat→Bool} (hF:z0e h F= .row (fld N g)) (hM:z0e h M= .box [.d (.int .i64 (i:Int)), .d (.int .i64 (k:Int))]) (hFl:F<h.length) (hMl:M<h.length)
  {Q:AX→AS→Prop} (hQ:Q .normal ⟨[],z0o h F (.row (fld N (fun a b=>g a b||(decide (a=i)&&decide (b=k))))),69⟩):
  z2u P34 m (.region 15 (z2v 17 z7k) true) ⟨[(6, .bptr F 0),(7, .bptr M 0)],h,69⟩ (fun e s=>∃ s',z2a m s s'∧Q e s'):=by
 have hl:(z2v 17 z7k).toList=[z5q 17 z7k 0,z5q 17 z7k 1,z5q 17 z7k 2,z5q 17 z7k 3,z5q 17 z7k 4,z5q 17 z7k 5,z5q 17 z7k 6,z5q 17 z7k 7]:=by kernel_rfl
 have hfg:=z47 N g i k hi hk
 have hset:=x8j N g i k hi hk
 refine y1e (T:=E34.T) follows_mixed x3r hm (by kernel_rfl) (by kernel_rfl) ?_
 suffices hgoal:DS P34 E34.T (z2v 17 z7k).toList 69 h.length (fun s=>∃ s',z2a m s s'∧Q .normal s') [] 0 [z5q 17 z7k 0,z5q 17 z7k 1,z5q 17 z7k 2,z5q 17 z7k 3,z5q 17 z7k 4,z5q 17 z7k 5,z5q 17 z7k 6,z5q 17 z7k 7] ⟨[(6, .bptr F 0),(7, .bptr M 0)],h,69⟩ by
  rw [←hl] at hgoal; exact hgoal
 refine z8j (dst:=some 54) (op:= .fieldAddr 80 (.tmp 7) 0) ⟨by kernel_rfl,by kernel_rfl,by kernel_rfl⟩ (q:=false) (r:=[]) (ra:=[]) (res:=⟨true, .bptr M 0,[]⟩) (by kernel_rfl) trivial (by kernel_rfl) rfl rfl (by intro id hid; cases hid) ?_
 refine z8j (dst:=some 55) (op:= .load 3 (.tmp 54)) ⟨by kernel_rfl,by kernel_rfl,by kernel_rfl⟩ (q:=false) (r:=[]) (ra:=[]) (res:=⟨true, .d (.int .i64 (i:Int)),[]⟩) (by kernel_rfl) (z2r rfl hM) (ld3 rfl hM rfl) rfl rfl (z6s (L:=M) hMl) ?_
 refine z8j (dst:=some 56) (op:= .fieldAddr 80 (.tmp 7) 1) ⟨by kernel_rfl,by kernel_rfl,by kernel_rfl⟩ (q:=false) (r:=[]) (ra:=[]) (res:=⟨true, .bptr M 1,[]⟩) (by kernel_rfl) trivial (by kernel_rfl) rfl rfl (by intro id hid; cases hid) ?_
 refine z8j (dst:=some 57) (op:= .load 3 (.tmp 56)) ⟨by kernel_rfl,by kernel_rfl,by kernel_rfl⟩ (q:=false) (r:=[]) (ra:=[]) (res:=⟨true, .d (.int .i64 (k:Int)),[]⟩) (by kernel_rfl) (z2r rfl hM) (ld3 rfl hM rfl) rfl rfl (z6s (L:=M) hMl) ?_
 refine z8j (dst:=some 58) (op:= .fieldAddr 75 (.tmp 6) 1) ⟨by kernel_rfl,by kernel_rfl,by kernel_rfl⟩ (q:=false) (r:=[]) (ra:=[]) (res:=⟨true, .bptr F 1,[]⟩) (by kernel_rfl) trivial (by kernel_rfl) rfl rfl (by intro id hid; cases hid) ?_
 refine z8j (dst:=some 59) (op:= .indexAddr 73 (.tmp 58) (.tmp 55)) ⟨by kernel_rfl,by kernel_rfl,by kernel_rfl⟩ (q:=false) (r:=[]) (ra:=[]) (res:=⟨std.cmp .geq (i:Int) 0&&std.cmp .lss (i:Int) (std.ofNat 10), .bptr F (1+i*10),[]⟩) (by kernel_rfl) trivial (w98 rfl rfl hF) (inB (n:=10) hi) rfl (fun id hid=>z6s (L:=F) hFl id (by first|exact hid|(cases hid))) ?_
 refine z8j (dst:=some 60) (op:= .indexAddr 72 (.tmp 59) (.tmp 57)) ⟨by kernel_rfl,by kernel_rfl,by kernel_rfl⟩ (q:=false) (r:=[]) (ra:=[]) (res:=⟨std.cmp .geq (k:Int) 0&&std.cmp .lss (k:Int) (std.ofNat 10), .bptr F (1+i*10+k),[]⟩) (by kernel_rfl) trivial (w99 rfl rfl hF) (inB (n:=10) hk) rfl (fun id hid=>z6s (L:=F) hFl id (by first|exact hid|(cases hid))) ?_
 refine z8j (dst:=none) (op:= .store 3 (.tmp 60) (.const (.int .i64 1))) ⟨by kernel_rfl,by kernel_rfl,by kernel_rfl⟩ (q:=false) (r:=[.int .i64 (bif g i k then 1 else 0)]) (ra:=[]) (res:=⟨true, .bot,[(F, .row ((fld N g).set (1+i*10+k) (eI 1)))]⟩) (by kernel_rfl) (x2q rfl hF hfg) (w85 rfl hF) rfl rfl (z6s (L:=F) hFl) ?_
 rw [hset]
 refine .nil ⟨_,z2a.env (n:=m) (s:=⟨_,_,69⟩) (z06 fun x hx=>?_),hQ⟩
 cases hx
theorem w05 {m:Nat} {h:List AO} (hm:m≤h.length) {N:Int} {F M:Nat} {i k:Nat} (hi:i<10) (hk:k<10) {g:Nat→Nat→Bool} (hF:z0e h F= .row (fld N g)) (hM:z0e h M= .box [.d (.int .i64 (i:Int)), .d (.int .i64 (k:Int))]) (hFl:F<h.length) (hMl:M<h.length)
  {Q:AX→AS→Prop} (hQ:Q .normal ⟨[],z0o h F (.row (fld N (fun a b=>g a b||(decide (a=k)&&decide (b=i))))),69⟩):
  z2u P34 m (.region 16 (z2v 17 z7j) true) ⟨[(6, .bptr F 0),(7, .bptr M 0)],h,69⟩ (fun e s=>∃ s',z2a m s s'∧Q e s'):=by
 have hl:(z2v 17 z7j).toList=[z5q 17 z7j 0,z5q 17 z7j 1,z5q 17 z7j 2,z5q 17 z7j 3,z5q 17 z7j 4,z5q 17 z7j 5,z5q 17 z7j 6,z5q 17 z7j 7]:=by kernel_rfl
 have hfg:=z47 N g k i hk hi
 have hset:=x8j N g k i hk hi
 refine y1e (T:=E34.T) follows_mixed x3r hm (by kernel_rfl) (by kernel_rfl) ?_
 suffices hgoal:DS P34 E34.T (z2v 17 z7j).toList 69 h.length (fun s=>∃ s',z2a m s s'∧Q .normal s') [] 0 [z5q 17 z7j 0,z5q 17 z7j 1,z5q 17 z7j 2,z5q 17 z7j 3,z5q 17 z7j 4,z5q 17 z7j 5,z5q 17 z7j 6,z5q 17 z7j 7] ⟨[(6, .bptr F 0),(7, .bptr M 0)],h,69⟩ by
  rw [←hl] at hgoal; exact hgoal
 refine z8j (dst:=some 61) (op:= .fieldAddr 80 (.tmp 7) 1) ⟨by kernel_rfl,by kernel_rfl,by kernel_rfl⟩ (q:=false) (r:=[]) (ra:=[]) (res:=⟨true, .bptr M 1,[]⟩) (by kernel_rfl) trivial (by kernel_rfl) rfl rfl (by intro id hid; cases hid) ?_
 refine z8j (dst:=some 62) (op:= .load 3 (.tmp 61)) ⟨by kernel_rfl,by kernel_rfl,by kernel_rfl⟩ (q:=false) (r:=[]) (ra:=[]) (res:=⟨true, .d (.int .i64 (k:Int)),[]⟩) (by kernel_rfl) (z2r rfl hM) (ld3 rfl hM rfl) rfl rfl (z6s (L:=M) hMl) ?_
 refine z8j (dst:=some 63) (op:= .fieldAddr 80 (.tmp 7) 0) ⟨by kernel_rfl,by kernel_rfl,by kernel_rfl⟩ (q:=false) (r:=[]) (ra:=[]) (res:=⟨true, .bptr M 0,[]⟩) (by kernel_rfl) trivial (by kernel_rfl) rfl rfl (by intro id hid; cases hid) ?_
 refine z8j (dst:=some 64) (op:= .load 3 (.tmp 63)) ⟨by kernel_rfl,by kernel_rfl,by kernel_rfl⟩ (q:=false) (r:=[]) (ra:=[]) (res:=⟨true, .d (.int .i64 (i:Int)),[]⟩) (by kernel_rfl) (z2r rfl hM) (ld3 rfl hM rfl) rfl rfl (z6s (L:=M) hMl) ?_
 refine z8j (dst:=some 65) (op:= .fieldAddr 75 (.tmp 6) 1) ⟨by kernel_rfl,by kernel_rfl,by kernel_rfl⟩ (q:=false) (r:=[]) (ra:=[]) (res:=⟨true, .bptr F 1,[]⟩) (by kernel_rfl) trivial (by kernel_rfl) rfl rfl (by intro id hid; cases hid) ?_
 refine z8j (dst:=some 66) (op:= .indexAddr 73 (.tmp 65) (.tmp 62)) ⟨by kernel_rfl,by kernel_rfl,by kernel_rfl⟩ (q:=false) (r:=[]) (ra:=[]) (res:=⟨std.cmp .geq (k:Int) 0&&std.cmp .lss (k:Int) (std.ofNat 10), .bptr F (1+k*10),[]⟩) (by kernel_rfl) trivial (w98 rfl rfl hF) (inB (n:=10) hk) rfl (fun id hid=>z6s (L:=F) hFl id (by first|exact hid|(cases hid))) ?_
 refine z8j (dst:=some 67) (op:= .indexAddr 72 (.tmp 66) (.tmp 64)) ⟨by kernel_rfl,by kernel_rfl,by kernel_rfl⟩ (q:=false) (r:=[]) (ra:=[]) (res:=⟨std.cmp .geq (i:Int) 0&&std.cmp .lss (i:Int) (std.ofNat 10), .bptr F (1+k*10+i),[]⟩) (by kernel_rfl) trivial (w99 rfl rfl hF) (inB (n:=10) hi) rfl (fun id hid=>z6s (L:=F) hFl id (by first|exact hid|(cases hid))) ?_
 refine z8j (dst:=none) (op:= .store 3 (.tmp 67) (.const (.int .i64 1))) ⟨by kernel_rfl,by kernel_rfl,by kernel_rfl⟩ (q:=false) (r:=[.int .i64 (bif g k i then 1 else 0)]) (ra:=[]) (res:=⟨true, .bot,[(F, .row ((fld N g).set (1+k*10+i) (eI 1)))]⟩) (by kernel_rfl) (x2q rfl hF hfg) (w85 rfl hF) rfl rfl (z6s (L:=F) hFl) ?_
 rw [hset]
 refine .nil ⟨_,z2a.env (n:=m) (s:=⟨_,_,69⟩) (z06 fun x hx=>?_),hQ⟩
 cases hx
end Go.Am
end
section
namespace Go.Am
theorem cX17:z07 P34 17 (false::X17)=some (cdF 17 (false::X17)):=by kernel_rfl
theorem v8g:z07 P34 17 (false::Z17)=some (cdF 17 (false::Z17)):=by kernel_rfl
theorem v2r:z07 P34 17 ([true,true,true]++Z17)=some (cdF 17 ([true,true,true]++Z17)):=by kernel_rfl
theorem v2p:z07 P34 17 ([false,true]++Y17)=some (cdF 17 ([false,true]++Y17)):=by kernel_rfl
theorem eX17 (m P F M:Nat) (h:List AO):y37 m 17 (false::X17) [(4, .bptr P 0),(6, .bptr F 0),(7, .bptr M 0)] h 69=some (.normal,⟨⟨x1z P F M 0,h,69⟩,[]⟩):=by kernel_rfl
theorem v73 (m P F M n:Nat) (s j:Int) (h:List AO):y37 m 17 (false::Z17) (z5u P F M n s j) h 69=some (.normal,⟨⟨z5u P F M n s j++[(33, .d (.bool (std.cmp .lss j (n:Int))))],h,69⟩,[]⟩):=by kernel_rfl
theorem v1c (m P F M n:Nat) (s j:Int) (h:List AO):y37 m 17 ([true,true,true]++Z17) (z5u P F M n s j) h 69=some (.normal,⟨⟨z5u P F M n s (std.ar .add .i64 j 1)++[(51, .d (.int .i64 (std.ar .add .i64 j 1)))],h,69⟩,[]⟩):=by kernel_rfl
theorem v1a (m P F M:Nat) (s:Int) (h:List AO):y37 m 17 ([false,true]++Y17) (x1z P F M s) h 69=some (.normal,⟨⟨x1z P F M s++[(52, .d (.int .i64 s)),(53, .d (.bool (std.cmp .geq s 0)))],h,69⟩,[]⟩):=by kernel_rfl
theorem x7a {l:List Vt} (hv:∀ v∈l,v.2.1≠v.2.2) (j x y:Int) (hxy:x<y): -1≤((z3g (z1i l j).1 (x,y)).getD 0:Int)∧((z3g (z1i l j).1 (x,y)).getD 0:Int)≤1:=by
 rw [y98 hv j x y hxy]
 cases z3k l j x y<;>cases z3k l j y x<;>decide
theorem w5a {l:List Vt} (hv:∀ v∈l,v.2.1≠v.2.2) (S x y:Int) (hxy:x<y) (m:Nat): -(m:Int)≤y0o l S x y m∧y0o l S x y m≤(m:Int):=by
 induction m with
 |zero=>simp [y0o]
 |succ m ih=>
  have:=x7a hv (m:Int) x y hxy
  rw [y0o]
  split<;>omega
theorem w1u {m:Nat} {h:List AO} (hm:m≤h.length) {N S:Int} {V:List (List D)} {n:Nat} (hn:n≤1000) {l:List Vt} (hv:∀ v∈l,v.2.1≠v.2.2) {P F M:Nat} {i k:Int} (hik:i<k) {g:Nat→Nat→Bool}
  (hf:y21 h N S V n (fun j=>z1i l (j:Int)) P F M i k g) {Q:AX→AS→Prop} (hQ:∀ h',m≤h'.length→h.length≤h'.length→y21 h' N S V n (fun j=>z1i l (j:Int)) P F M i k g→Q (.exit 2) ⟨x1z P F M (y0o l S i k n),h',69⟩):
  z2u P34 m (.loop (cdF 17 Z17)) ⟨z5u P F M n 0 ((0:Nat):Int),h,69⟩ Q:=by
 let ι:={ x:Nat×List AO // x.1≤n∧m≤x.2.length∧h.length≤x.2.length∧y21 x.2 N S V n (fun j=>z1i l (j:Int)) P F M i k g }
 let I:ι→AS:=fun q=>⟨z5u P F M n (y0o l S i k q.1.1) (q.1.1:Nat),q.1.2,69⟩
 refine z7v (ι:=ι) I (fun q=>n - q.1.1) (fun _ _=>rfl) ?_ ⟨(0,h),Nat.zero_le _,hm,Nat.le_refl _,hf⟩
 rintro ⟨⟨t,h1⟩,ht,hm1,hl1,hf1⟩
 have hm1:m≤h1.length:=hm1
 have hl1:h.length≤h1.length:=hl1
 have hf1:y21 h1 N S V n (fun j=>z1i l (j:Int)) P F M i k g:=hf1
 rw [sZ17]
 refine z0h ?_
 refine (rgN v8g hm1 (v73 m P F M n (y0o l S i k t) (t:Int) h1)).mono ?_
 rintro e s ⟨rfl,rfl⟩
 refine z0h ?_
 by_cases hlt:t<n
 ·have hc:std.cmp .lss (t:Int) (n:Int)=true:=by rw [z4k]; exact decide_eq_true (by omega)
  refine z1x (t:=true) (by show AV.d (.bool (std.cmp .lss (t:Int) (n:Int)))=_; rw [hc]) ?_
  rw [if_pos rfl]
  refine z4r ?_
  refine z09 (s':=⟨z5u P F M n (y0o l S i k t) (t:Int),h1,69⟩) (z2a.env (n:=m) (s:=⟨_,h1,69⟩) (y03 rfl rfl rfl rfl rfl rfl rfl)) ?_
  refine z0h (z1h (z0h (z0t (z00 ?_))))
  refine w1b hm1 hlt hf1.fam (Q:=fun s'=>z2u P34 m (.seq (.region 11 (z2v 17 z58) true) (.cond (.tmp 44) (.region 12 (z2v 17 y2u) false) .skip)) s' _) ?_
  have hh1:=hf1.fam.len
  have l2:(z0o (z0o h1 h1.length (.box [.d .nilm, .d .nilm])) h1.length (.box [.map (1+(2+4*t)), .map (1+(3+4*t))])).length=h1.length+1:=by
   rw [z0q _ _ _ (by rw [z1c]; omega),z1c]
  have k2:∀ j,j<h1.length→z0e (z0o (z0o h1 h1.length (.box [.d .nilm, .d .nilm])) h1.length (.box [.map (1+(2+4*t)), .map (1+(3+4*t))])) j=z0e h1 j:=fun j hj=>by
   rw [z0a _ _ _ _ (by omega),z0a _ _ _ _ (by omega)]
  have m2:z0e (z0o (z0o h1 h1.length (.box [.d .nilm, .d .nilm])) h1.length (.box [.map (1+(2+4*t)), .map (1+(3+4*t))])) h1.length= .box [.map (1+(2+4*t)), .map (1+(3+4*t))]:=z0b _ _ _
  have hL:h1.length<h1.length+1:=Nat.lt_succ_self _
  generalize z0o (z0o h1 h1.length (.box [.d .nilm, .d .nilm])) h1.length (.box [.map (1+(2+4*t)), .map (1+(3+4*t))])=h2 at l2 k2 m2⊢
  have hf2:=hf1.keep (h':=h2) (by omega) (fun j _ hj=>k2 j (by omega))
  refine z0h (z0t (w1a (by omega) hf2 (L:=h1.length) (x:=1+(2+4*t)) (y:=1+(3+4*t)) (jm:=(z1i l (t:Int)).2) (by omega) (by omega) m2 (hf2.fam.slip t hlt) ?_))
  have fin:∀ s',s'=y0o l S i k (t+1)→z2u P34 m (cdF 17 ([true,true,true]++Z17)) ⟨z5u P F M n s' (t:Int),h2,69⟩ (fun e s'=>match e with| .normal=>∃ q':ι,s'=I q'∧n - q'.1.1<n - t|e=>Q e s'):=by
   rintro s' rfl
   refine z0t ((rgN v2r (by show m≤h2.length; omega) (v1c m P F M n (y0o l S i k (t+1)) (t:Int) h2)).mono ?_)
   rintro e s ⟨rfl,rfl⟩
   rw [w8k (i:=t) (by omega)]
   exact ⟨⟨z5u P F M n (y0o l S i k (t+1)) ((t+1:Nat):Int),h2,69⟩,z2a.env (n:=m) (s:=⟨_,h2,69⟩) (y03 rfl rfl rfl rfl rfl rfl rfl),⟨⟨(t+1,h2),hlt,by show m≤h2.length; omega,by show h.length≤h2.length; omega,hf2⟩,rfl,by show n - (t+1)<n - t; omega⟩⟩
  by_cases hs:(((z1i l (t:Int)).2.length:Nat):Int)≤S
  ·have hc2:std.cmp .leq (((z1i l (t:Int)).2.length:Nat):Int) S=true:=by rw [y7m]; exact decide_eq_true hs
   refine z1x (t:=true) (by show AV.d (.bool (std.cmp .leq _ S))=_; rw [hc2]) ?_
   rw [if_pos rfl]
   refine z09 (s':=⟨(10, .bptr h1.length 0)::z5u P F M n (y0o l S i k t) (t:Int),h2,69⟩) (z2a.env (n:=m) (s:=⟨_,h2,69⟩) (z06 fun x hx=>by
    simp only [z5u,List.mem_cons,List.not_mem_nil,or_false] at hx
    rcases hx with rfl|rfl|rfl|rfl|rfl|rfl|rfl|rfl<;>rfl)) ?_
   refine z0t (z00 ?_)
   refine w08 (by omega) m2 (hf2.fam.said t hlt) hf2.hM ?_
   have b1:=w5a hv S i k hik t
   have b2:=x7a hv (t:Int) i k hik
   have hw:std.ar .add .i64 (y0o l S i k t) ((z3g (z1i l (t:Int)).1 (i,k)).getD 0)=y0o l S i k (t+1):=by
    rw [z0i,y0p _ (by omega) (by omega),y0o,if_pos hs]
   exact fin _ hw
  ·have hc2:std.cmp .leq (((z1i l (t:Int)).2.length:Nat):Int) S=false:=by rw [y7m]; exact decide_eq_false hs
   refine z1x (t:=false) (by show AV.d (.bool (std.cmp .leq _ S))=_; rw [hc2]) ?_
   rw [if_neg (by simp)]
   refine z4r ?_
   refine z09 (s':=⟨z5u P F M n (y0o l S i k t) (t:Int),h2,69⟩) (z2a.env (n:=m) (s:=⟨_,h2,69⟩) (y03 rfl rfl rfl rfl rfl rfl rfl)) ?_
   exact fin _ (by rw [y0o,if_neg hs,Int.add_zero])
 ·have htl:t=n:=by omega
  subst htl
  have hc:std.cmp .lss (t:Int) (t:Int)=false:=by rw [z4k]; exact decide_eq_false (by omega)
  refine z1x (t:=false) (by show AV.d (.bool (std.cmp .lss (t:Int) (t:Int)))=_; rw [hc]) ?_
  rw [if_neg (by simp)]
  refine z09 (s':=⟨x1z P F M (y0o l S i k t),h1,69⟩) (z2a.env (n:=m) (s:=⟨_,h1,69⟩) (z06 fun x hx=>by
   simp only [x1z,List.mem_cons,List.not_mem_nil,or_false] at hx
   rcases hx with rfl|rfl|rfl|rfl<;>rfl)) ?_
  exact z6e (hQ h1 hm1 hl1 hf1)
structure w4u (h:List AO) (N S:Int) (V:List (List D)) (n:Nat) (f:Nat→JM×JM) (P F:Nat) (g:Nat→Nat→Bool):Prop where
 fam:x6f h 1 N n S V n f
 hP:z0e h P= .box [.bptr 2 0]
 hF:z0e h F= .row (fld N g)
 l1:1+(2+4*n)≤P
 l2:P<F
 l3:F<h.length
theorem w4u.keep {h h':List AO} {N S:Int} {V:List (List D)} {n:Nat} {f:Nat→JM×JM} {P F:Nat} {g:Nat→Nat→Bool} (hf:w4u h N S V n f P F g) (hl:h.length≤h'.length) (hk:∀ j,1≤j→j≤F→z0e h' j=z0e h j):w4u h' N S V n f P F g:=by
 have a1:=hf.l1
 have a2:=hf.l2
 have a3:=hf.l3
 have a0:=hf.fam.len
 refine ⟨hf.fam.keep hl fun j h1 h2=>hk j (by omega) (by omega),?_,?_,a1,a2,by omega⟩
 ·rw [hk _ (by omega) (by omega)]; exact hf.hP
 ·rw [hk _ (by omega) (by omega)]; exact hf.hF
def v4i (g:Nat→Nat→Bool) (i k:Nat) (d:Bool):Nat→Nat→Bool:=fun a b=>g a b||(bif d then decide (a=i)&&decide (b=k) else decide (a=k)&&decide (b=i))
theorem y21.put {h:List AO} {N S:Int} {V:List (List D)} {n:Nat} {f:Nat→JM×JM} {P F M:Nat} {i k:Int} {g g':Nat→Nat→Bool} (hf:y21 h N S V n f P F M i k g):w4u (z0o h F (.row (fld N g'))) N S V n f P F g':=by
 have a1:=hf.l1
 have a2:=hf.l2
 have a3:=hf.l3
 have a4:=hf.l4
 have key:∀ j,j≠F→z0e (z0o h F (.row (fld N g'))) j=z0e h j:=fun j hj=>z0a _ _ _ _ (Ne.symm hj)
 have hl:(z0o h F (.row (fld N g'))).length=h.length:=z0q _ _ _ (by omega)
 refine ⟨hf.fam.keep (by omega) fun j h1 h2=>key j (by omega),?_,z0b _ _ _,a1,a2,by omega⟩
 rw [key _ (by omega)]; exact hf.hP
theorem w8d {env:List (Nat×AV)} {h:List AO} {new:Nat}:z0j std E34.T env h new false [] [] (.alloc 80)=some ⟨true, .bptr new 0,[(new, .box [.d (.int .i64 0), .d (.int .i64 0)])]⟩:=by kernel_rfl
theorem w5b {env:List (Nat×AV)} {h:List AO} {new a c M:Nat} {i k:Int} (ha:z0r env a= .bptr M 0) (hc:z0r env c= .d (.agg [.int .i64 i, .int .i64 k])) (hh:z0e h M= .box [.d (.int .i64 0), .d (.int .i64 0)]):
  z0j std E34.T env h new false [] [] (.store 80 (.tmp a) (.tmp c))=some ⟨true, .bot,[(M, .box [.d (.int .i64 i), .d (.int .i64 k)])]⟩:=by
 cases ht:E34.T 80 with
 |none=>have:=v3v; rw [ht] at this; cases this
 |some ti=>
  have h1:=v3v
  rw [ht] at h1
  simp only [Option.map_some,Option.some.injEq,Prod.mk.injEq] at h1
  obtain ⟨s,b,a',z,d,q⟩:=ti
  simp only at h1
  obtain ⟨rfl,rfl,rfl⟩:=h1
  simp only [z0j,ht,z0n,ha,hc,z2e,z1y,z1m,hh]
  rfl
def z7t (P F X:Nat):List (Nat×AV):=[(4, .bptr P 0),(6, .bptr F 0),(25, .clo (.func 78) [] [.bptr X 0])]
theorem w5q {m:Nat} {h:List AO} (hm:m≤h.length) {N S:Int} {l:List Vt} {n:Nat} (hv:∀ v∈l,¬ z6l N n v) (h0:0<n) (hn:n≤1000) {P F X:Nat} {i k:Nat} (hik:i<k) (hk:k<10) {g:Nat→Nat→Bool}
  (hf:w4u h N S (z0g l) n (fun j=>z1i l (j:Int)) P F g) {K:AX→AS→Prop} (hK:∀ env h',h.length≤h'.length→w4u h' N S (z0g l) n (fun j=>z1i l (j:Int)) P F (v4i g i k (decide (0≤y0o l S i k n)))→K .normal ⟨env,h',69⟩):
  z2u P34 m (.region 6 (z2v 17 (false::R17)) false) ⟨y7q (z7t P F X) [26] [.d (.agg [.int .i64 (i:Int), .int .i64 (k:Int)])],h,69⟩ (fun e s1=>e= .normal∧z2u P34 m (.block 1 (cdF 17 X17)) s1 K):=by
 have hv':∀ v∈l,v.2.1≠v.2.2:=fun v hm e=>hv v hm (.inr (.inr (.inr (.inr (.inr (.inr e))))))
 have hr:List.range (z2v 17 (false::R17)).size=[0,1]:=by kernel_rfl
 obtain ⟨w0,o0⟩:=z05 (g:=17) (p:=false::R17) (i:=0) (dst:=some 7) (op:= .alloc 80) (by kernel_rfl)
 obtain ⟨w1,o1⟩:=z05 (g:=17) (p:=false::R17) (i:=1) (dst:=none) (op:= .store 80 (.tmp 7) (.tmp 26)) (by kernel_rfl)
 refine z00 ?_
 rw [hr]
 refine osN o0 hm (q:=false) (r:=[]) (ra:=[]) (res:=⟨true, .bptr h.length 0,[(h.length, .box [.d (.int .i64 0), .d (.int .i64 0)])]⟩) trivial w8d rfl rfl ?_
 have hl1:(z0o h h.length (.box [.d (.int .i64 0), .d (.int .i64 0)])).length=h.length+1:=z1c _ _
 have hM:z0e (z0o h h.length (.box [.d (.int .i64 0), .d (.int .i64 0)])) h.length= .box [.d (.int .i64 0), .d (.int .i64 0)]:=z0b _ _ _
 refine osN o1 (by show m≤(z0o h h.length (.box [.d (.int .i64 0), .d (.int .i64 0)])).length; omega) (q:=false) (r:=[]) (ra:=[]) (res:=⟨true, .bot,[(h.length, .box [.d (.int .i64 (i:Int)), .d (.int .i64 (k:Int))])]⟩) (x2p rfl hM) (w5b rfl rfl hM) rfl rfl ?_
 refine z1w ⟨rfl,?_⟩
 have hl2:(z0o (z0o h h.length (.box [.d (.int .i64 0), .d (.int .i64 0)])) h.length (.box [.d (.int .i64 (i:Int)), .d (.int .i64 (k:Int))])).length=h.length+1:=by rw [z0q _ _ _ (by omega)]; exact hl1
 have hk2:∀ j,j<h.length→z0e (z0o (z0o h h.length (.box [.d (.int .i64 0), .d (.int .i64 0)])) h.length (.box [.d (.int .i64 (i:Int)), .d (.int .i64 (k:Int))])) j=z0e h j:=fun j hj=>by
  rw [z0a _ _ _ _ (by omega),z0a _ _ _ _ (by omega)]
 have hM2:z0e (z0o (z0o h h.length (.box [.d (.int .i64 0), .d (.int .i64 0)])) h.length (.box [.d (.int .i64 (i:Int)), .d (.int .i64 (k:Int))])) h.length= .box [.d (.int .i64 (i:Int)), .d (.int .i64 (k:Int))]:=z0b _ _ _
 show z2u P34 m _ ⟨_,z0o (z0o h h.length (.box [.d (.int .i64 0), .d (.int .i64 0)])) h.length (.box [.d (.int .i64 (i:Int)), .d (.int .i64 (k:Int))]),69⟩ _
 generalize z0o (z0o h h.length (.box [.d (.int .i64 0), .d (.int .i64 0)])) h.length (.box [.d (.int .i64 (i:Int)), .d (.int .i64 (k:Int))])=h2 at hl2 hk2 hM2⊢
 have a1:=hf.l1
 have a2:=hf.l2
 have a3:=hf.l3
 have a0:=hf.fam.len
 have hf2:y21 h2 N S (z0g l) n (fun j=>z1i l (j:Int)) P F h.length (i:Int) (k:Int) g:=
  ⟨hf.fam.keep (by omega) fun j h1 h3=>hk2 j (by omega),by rw [hk2 _ (by omega)]; exact hf.hP,by rw [hk2 _ (by omega)]; exact hf.hF,hM2,a1,a2,a3,by omega⟩
 refine z09 (s':=⟨[(4, .bptr P 0),(6, .bptr F 0),(7, .bptr h.length 0)],h2,69⟩) (z2a.env (n:=m) (s:=⟨_,h2,69⟩) (z06 fun x hx=>by
  simp only [List.mem_cons,List.not_mem_nil,or_false] at hx
  rcases hx with rfl|rfl|rfl<;>rfl)) ?_
 refine z1h ?_
 rw [sX17]
 have hm2:m≤h2.length:=by omega
 refine z0h ((rgN cX17 hm2 (eX17 m P F h.length h2)).mono ?_)
 rintro e s ⟨rfl,rfl⟩
 refine z0h (z0h (z0t (z00 (w5v hm2 h0 hf2 (Q:=fun s'=>z2u P34 m (.block 2 (.loop (cdF 17 Z17))) s' _) ?_))))
 refine z1h ?_
 refine w1u hm2 hn hv' (show (i:Int)<(k:Int) by omega) hf2 fun h3 hm3 hl3 hf3=>?_
 simp only [if_true]
 refine z0h ((rgN v2p hm3 (v1a m P F h.length (y0o l S i k n) h3)).mono ?_)
 rintro e s ⟨rfl,rfl⟩
 have hc:std.cmp .geq (y0o l S i k n) 0=decide (0≤y0o l S i k n):=by rw [y3y]
 refine z1x (t:=decide (0≤y0o l S i k n)) (by show AV.d (.bool (std.cmp .geq (y0o l S i k n) 0))=_; rw [hc]) ?_
 refine z09 (s':=⟨[(6, .bptr F 0),(7, .bptr h.length 0)],h3,69⟩) (z2a.env (n:=m) (s:=⟨_,h3,69⟩) (z06 fun x hx=>by
  simp only [List.mem_cons,List.not_mem_nil,or_false] at hx
  rcases hx with rfl|rfl<;>rfl)) ?_
 have b3:=hf3.l3
 have b4:=hf3.l4
 cases hd:decide (0≤y0o l S i k n) with
 |true=>
  rw [if_pos rfl]
  refine z0t (w06 hm3 (by omega) hk hf3.hF hf3.hM (by omega) b4 ?_)
  refine hK _ _ ?_ ?_
  ·rw [z0q _ _ _ (by omega)]; omega
  ·rw [hd]; exact hf3.put
 |false=>
  rw [if_neg (by simp)]
  refine z0t (w05 hm3 (by omega) hk hf3.hF hf3.hM (by omega) b4 ?_)
  refine hK _ _ ?_ ?_
  ·rw [z0q _ _ _ (by omega)]; omega
  ·rw [hd]; exact hf3.put
end Go.Am
end
section
namespace Go.Am
def A78:List Bool:=[false,false,true]
def B78:List Bool:=[false,false,true,true]++A78
def C78:List Bool:=[false,false,true,true]++B78
def D78:List Bool:=[false,false,true,true]++C78
def w0a:List Bool:=[false,true]++D78
theorem s78:cdF 78 []= .seq (.region 0 (z2v 78 [false]) false) (.block 0 (.loop (cdF 78 A78))):=by kernel_rfl
theorem sA78:cdF 78 A78= .seq (cdF 78 (false::A78)) (.seq (.cond (.tmp 10) .skip (.exit 0)) (.seq (.block 1 (.seq (cdF 78 (false::B78)) (.seq (cdF 78 ([false,true]++B78)) (.block 2 (.loop (cdF 78 C78)))))) (cdF 78 ([true,true,true]++A78)))):=by kernel_rfl
theorem sC78:cdF 78 C78= .seq (cdF 78 (false::C78)) (.seq (.cond (.tmp 14) .skip (.exit 2)) (.seq (.block 3 (.seq (cdF 78 (false::D78)) (.seq (.region 6 (z2v 78 w0a) false) (.cond (.tmp 21) .ret .skip)))) (cdF 78 ([true,true,true]++C78)))):=by kernel_rfl
theorem v2k:z07 P34 78 (false::A78)=some (cdF 78 (false::A78)):=by kernel_rfl
theorem v2j:z07 P34 78 ([true,true,true]++A78)=some (cdF 78 ([true,true,true]++A78)):=by kernel_rfl
theorem v2i:z07 P34 78 (false::B78)=some (cdF 78 (false::B78)):=by kernel_rfl
theorem v2h:z07 P34 78 ([false,true]++B78)=some (cdF 78 ([false,true]++B78)):=by kernel_rfl
theorem v2g:z07 P34 78 (false::C78)=some (cdF 78 (false::C78)):=by kernel_rfl
theorem v2f:z07 P34 78 ([true,true,true]++C78)=some (cdF 78 ([true,true,true]++C78)):=by kernel_rfl
theorem v2e:z07 P34 78 (false::D78)=some (cdF 78 (false::D78)):=by kernel_rfl
theorem fn78:∃ fn,P34.funcs[78]?=some fn∧fn.body=some (cdF 78 [])∧fn.ntmps=24∧fn.results.toList=[]:=by
 have:(P34.funcs[78]?.map fun fn=>(fn.body,fn.ntmps,fn.results.toList))=some (some (cdF 78 []),24,[]):=by kernel_rfl
 cases hq:P34.funcs[78]? with
 |none=>rw [hq] at this; cases this
 |some fn=>
  rw [hq] at this
  simp only [Option.map_some,Option.some.injEq,Prod.mk.injEq] at this
  exact ⟨fn,rfl,this.1,this.2.1,this.2.2⟩
theorem w2f:z13 P34 78:=enters_auto (b:=_) rfl (by kernel_rfl)
def z7n (L:Nat) (N k:Int):List (Nat×AV):=[(0, .yld L),(8, .d (.int .i64 N)),(9, .d (.int .i64 k))]
def z8h (L:Nat) (N k i:Int):List (Nat×AV):=[(0, .yld L),(8, .d (.int .i64 N)),(9, .d (.int .i64 k)),(3, .d (.int .i64 k)),(12, .d (.int .i64 k)),(13, .d (.int .i64 i))]
theorem y04 {L:Nat} {N k:Int} {env:List (Nat×AV)} (h0:z0r env 0= .yld L) (h8:z0r env 8= .d (.int .i64 N)) (h9:z0r env 9= .d (.int .i64 k)):y23 (z7n L N k) env:=by
 refine z06 fun x hx=>?_
 simp only [z7n,List.mem_cons,List.not_mem_nil,or_false] at hx
 rcases hx with rfl|rfl|rfl
 ·exact h0
 ·exact h8
 ·exact h9
theorem y75 {L:Nat} {N k i:Int} {env:List (Nat×AV)} (h0:z0r env 0= .yld L) (h8:z0r env 8= .d (.int .i64 N)) (h9:z0r env 9= .d (.int .i64 k)) (h3:z0r env 3= .d (.int .i64 k)) (h12:z0r env 12= .d (.int .i64 k)) (h13:z0r env 13= .d (.int .i64 i)):y23 (z8h L N k i) env:=by
 refine z06 fun x hx=>?_
 simp only [z8h,List.mem_cons,List.not_mem_nil,or_false] at hx
 rcases hx with rfl|rfl|rfl|rfl|rfl|rfl
 ·exact h0
 ·exact h8
 ·exact h9
 ·exact h3
 ·exact h12
 ·exact h13
theorem v05 (m L:Nat) (N k:Int) (h:List AO):y37 m 78 (false::A78) (z7n L N k) h 24=some (.normal,⟨⟨z7n L N k++[(10, .d (.bool (std.cmp .lss k N)))],h,24⟩,[]⟩):=by kernel_rfl
theorem v04 (m L:Nat) (N k:Int) (h:List AO):y37 m 78 ([true,true,true]++A78) (z7n L N k) h 24=some (.normal,⟨⟨z7n L N (std.ar .add .i64 k 1)++[(23, .d (.int .i64 (std.ar .add .i64 k 1)))],h,24⟩,[]⟩):=by kernel_rfl
theorem v03 (m L:Nat) (N k:Int) (h:List AO):y37 m 78 (false::B78) (z7n L N k) h 24=some (.normal,⟨⟨z7n L N k++[(11, .d (.int .i64 k)),(3, .d (.int .i64 k))],h,24⟩,[]⟩):=by kernel_rfl
theorem v02 (m L:Nat) (N k:Int) (h:List AO):y37 m 78 ([false,true]++B78) (z7n L N k++[(3, .d (.int .i64 k))]) h 24=some (.normal,⟨⟨z8h L N k 0,h,24⟩,[]⟩):=by kernel_rfl
theorem v01 (m L:Nat) (N k i:Int) (h:List AO):y37 m 78 (false::C78) (z8h L N k i) h 24=some (.normal,⟨⟨z8h L N k i++[(14, .d (.bool (std.cmp .lss i k)))],h,24⟩,[]⟩):=by kernel_rfl
theorem v00 (m L:Nat) (N k i:Int) (h:List AO):y37 m 78 ([true,true,true]++C78) (z8h L N k i) h 24=some (.normal,⟨⟨z8h L N k (std.ar .add .i64 i 1)++[(22, .d (.int .i64 (std.ar .add .i64 i 1)))],h,24⟩,[]⟩):=by kernel_rfl
theorem v0z (m L:Nat) (N k i:Int) (h:List AO):y37 m 78 (false::D78) (z8h L N k i) h 24=some (.normal,⟨⟨z8h L N k i++[(15, .d (.int .i64 i)),(4, .d (.int .i64 i))],h,24⟩,[]⟩):=by kernel_rfl
def x9a (l:List Vt) (S:Int) (n i k:Nat):Bool:=decide (0≤y0o l S i k n)
def w37 (l:List Vt) (S:Int) (n:Nat) (g:Nat→Nat→Bool) (k:Nat):Nat→Nat→Nat→Bool
 |0=>g
 |i+1=>v4i (w37 l S n g k i) i k (x9a l S n i k)
def y48 (l:List Vt) (S:Int) (n:Nat):Nat→Nat→Nat→Bool
 |0=>fun _ _=>false
 |k+1=>w37 l S n (y48 l S n k) k k
structure x09 (h:List AO) (N S:Int) (V:List (List D)) (n:Nat) (f:Nat→JM×JM) (P F X L:Nat) (g:Nat→Nat→Bool):Prop where
 fam:w4u h N S V n f P F g
 lp:z0e h L= .loop .ready none 17 R17 69 (z7t P F X)
 lF:F<L
 lL:L<h.length
theorem w76 {env:List (Nat×AV)} {h:List AO} {new a c:Nat} {i k:Int} (ha:z0r env a= .d (.int .i64 i)) (hc:z0r env c= .d (.int .i64 k)):
  z0j std E34.T env h new false [] [] (.build 80 #[(0, .tmp a),(1, .tmp c)])=some ⟨true, .d (.agg [.int .i64 i, .int .i64 k]),[]⟩:=by
 have e:z0j std E34.T env h new false [] [] (.build 80 #[(0, .tmp a),(1, .tmp c)])=z0j std E34.T [(0, .d (.int .i64 i)),(1, .d (.int .i64 k))] h new false [] [] (.build 80 #[(0, .tmp 0),(1, .tmp 1)]):=by
  simp only [z0j]
  show (match E34.T 80 with|some ti=>z53 ti [(0,z0r env a),(1,z0r env c)]|none=>none)=_
  rw [ha,hc]; rfl
 exact e.trans (by kernel_rfl)
theorem w5z {m:Nat} {h:List AO} (hm:m≤h.length) {N S:Int} {l:List Vt} {n:Nat} (hv:∀ v∈l,¬ z6l N n v) (h0:0<n) (hn:n≤1000) {P F X L:Nat} {i k:Nat} (hik:i<k) (hk:k<10) {g:Nat→Nat→Bool}
  (hf:x09 h N S (z0g l) n (fun j=>z1i l (j:Int)) P F X L g)
  {Q:AS→Prop} (hQ:∀ h',h.length≤h'.length→x09 h' N S (z0g l) n (fun j=>z1i l (j:Int)) P F X L (v4i g i k (x9a l S n i k))→Q ⟨z8h L N (k:Int) (i:Int)++[(21, .d (.bool false))],h',24⟩):
  z4v P34 m (z2v 78 w0a) (List.range (z2v 78 w0a).size) ⟨z8h L N (k:Int) (i:Int)++[(15, .d (.int .i64 (i:Int))),(4, .d (.int .i64 (i:Int)))],h,24⟩ (fun s=>∃ s',z2a m s s'∧Q s'):=by
 have hr:List.range (z2v 78 w0a).size=[0,1,2,3,4,5]:=by kernel_rfl
 obtain ⟨w0,o0⟩:=z05 (g:=78) (p:=w0a) (i:=0) (dst:=some 16) (op:= .move (.tmp 0)) (by kernel_rfl)
 obtain ⟨w1,o1⟩:=z05 (g:=78) (p:=w0a) (i:=1) (dst:=some 17) (op:= .move (.tmp 4)) (by kernel_rfl)
 obtain ⟨w2,o2⟩:=z05 (g:=78) (p:=w0a) (i:=2) (dst:=some 18) (op:= .move (.tmp 3)) (by kernel_rfl)
 obtain ⟨w3,o3⟩:=z05 (g:=78) (p:=w0a) (i:=3) (dst:=some 19) (op:= .build 80 #[(0, .tmp 17),(1, .tmp 18)]) (by kernel_rfl)
 obtain ⟨w4,o4⟩:=z05 (g:=78) (p:=w0a) (i:=4) (dst:=some 20) (op:= .call ⟨.value (.tmp 16),#[.tmp 19],#[80]⟩) (by kernel_rfl)
 obtain ⟨w5,o5⟩:=z05 (g:=78) (p:=w0a) (i:=5) (dst:=some 21) (op:= .unOp .not 4 (.tmp 20)) (by kernel_rfl)
 rw [hr]
 refine osN o0 hm (q:=false) (r:=[]) (ra:=[]) (res:=⟨true, .yld L,[]⟩) trivial rfl rfl rfl ?_
 refine osN o1 hm (q:=false) (r:=[]) (ra:=[]) (res:=⟨true, .d (.int .i64 (i:Int)),[]⟩) trivial rfl rfl rfl ?_
 refine osN o2 hm (q:=false) (r:=[]) (ra:=[]) (res:=⟨true, .d (.int .i64 (k:Int)),[]⟩) trivial rfl rfl rfl ?_
 refine osN o3 hm (q:=false) (r:=[]) (ra:=[]) (res:=⟨true, .d (.agg [.int .i64 (i:Int), .int .i64 (k:Int)]),[]⟩) trivial (w76 rfl rfl) rfl rfl ?_
 obtain ⟨o41,o42,o43,o44⟩:=o4
 have hlL:=hf.lL
 have hlF:=hf.lF
 have hld:(z0o h L .dead).length=h.length:=z0q _ _ _ hlL
 have hfd:w4u (z0o h L .dead) N S (z0g l) n (fun j=>z1i l (j:Int)) P F g:=hf.fam.keep (by omega) fun j h1 h2=>z0a _ _ _ _ (by omega)
 refine y6e (g:=17) (pos:=R17) (env:=z7t P F X) (nt:=69) (pd:=none) o41 (by rw [o44]; rfl) hm o43 (id:=L) rfl hf.lp v9x (by intro p hp; rw [List.mem_singleton.1 hp]; decide) rfl (by rw [o42]; rfl) ?_
 refine w5q (m:=h.length) (h:=z0o h L .dead) (l:=l) (n:=n) (i:=i) (k:=k) (X:=X) (by omega) hv h0 hn hik hk hfd fun env h' hl' hf'=>?_
 refine ⟨by show h.length≤h'.length; omega,?_⟩
 have hl2:(z0o h' L (.loop .ready none 17 R17 69 (z7t P F X))).length=h'.length:=z0q _ _ _ (by omega)
 have hf2:x09 (z0o h' L (.loop .ready none 17 R17 69 (z7t P F X))) N S (z0g l) n (fun j=>z1i l (j:Int)) P F X L (v4i g i k (x9a l S n i k)):=
  ⟨hf'.keep (by omega) fun j h1 h2=>z0a _ _ _ _ (by omega),z0b _ _ _,hlF,by omega⟩
 rw [o42]
 show z4v P34 m _ [5] ⟨_,z0o h' L (.loop .ready none 17 R17 69 (z7t P F X)),24⟩ _
 generalize z0o h' L (.loop .ready none 17 R17 69 (z7t P F X))=h2 at hl2 hf2⊢
 refine osN o5 (by show m≤h2.length; omega) (q:=false) (r:=[]) (ra:=[]) (res:=⟨true, .d (.bool false),[]⟩) trivial (by kernel_rfl) rfl rfl ?_
 refine z1w ⟨_,z2a.env (n:=m) (s:=⟨_,h2,24⟩) (z06 fun x hx=>?_),hQ h2 (by omega) hf2⟩
 simp only [z8h,List.cons_append,List.nil_append,List.mem_cons,List.not_mem_nil,or_false] at hx
 rcases hx with rfl|rfl|rfl|rfl|rfl|rfl|rfl<;>rfl
end Go.Am
end
section
namespace Go.Am
theorem w62 {m:Nat} {h:List AO} (hm:m≤h.length) {N S:Int} {l:List Vt} {n:Nat} (hv:∀ v∈l,¬ z6l N n v) (h0:0<n) (hn:n≤1000) {P F X L:Nat} {k:Nat} (hk:k<10) {g:Nat→Nat→Bool}
  (hf:x09 h N S (z0g l) n (fun j=>z1i l (j:Int)) P F X L g)
  {Q:AX→AS→Prop} (hQ:∀ h',h.length≤h'.length→x09 h' N S (z0g l) n (fun j=>z1i l (j:Int)) P F X L (w37 l S n g k k)→Q (.exit 2) ⟨z7n L N (k:Int),h',24⟩):
  z2u P34 m (.loop (cdF 78 C78)) ⟨z8h L N (k:Int) ((0:Nat):Int),h,24⟩ Q:=by
 let ι:={ x:Nat×List AO // x.1≤k∧h.length≤x.2.length∧x09 x.2 N S (z0g l) n (fun j=>z1i l (j:Int)) P F X L (w37 l S n g k x.1) }
 let I:ι→AS:=fun q=>⟨z8h L N (k:Int) (q.1.1:Nat),q.1.2,24⟩
 refine z7v (ι:=ι) I (fun q=>k - q.1.1) (fun _ _=>rfl) ?_ ⟨(0,h),Nat.zero_le _,Nat.le_refl _,hf⟩
 rintro ⟨⟨i,h1⟩,hi,hl1,hf1⟩
 have hl1:h.length≤h1.length:=hl1
 have hf1:x09 h1 N S (z0g l) n (fun j=>z1i l (j:Int)) P F X L (w37 l S n g k i):=hf1
 rw [sC78]
 refine z0h ?_
 refine (rgN v2g (by show m≤h1.length; omega) (v01 m L N (k:Int) (i:Int) h1)).mono ?_
 rintro e s ⟨rfl,rfl⟩
 refine z0h ?_
 by_cases hlt:i<k
 ·have hc:std.cmp .lss (i:Int) (k:Int)=true:=by rw [z4k]; exact decide_eq_true (by omega)
  refine z1x (t:=true) (by show AV.d (.bool (std.cmp .lss (i:Int) (k:Int)))=_; rw [hc]) ?_
  rw [if_pos rfl]
  refine z4r ?_
  refine z09 (s':=⟨z8h L N (k:Int) (i:Int),h1,24⟩) (z2a.env (n:=m) (s:=⟨_,h1,24⟩) (y75 rfl rfl rfl rfl rfl rfl)) ?_
  refine z0h (z1h (z0h ((rgN v2e (by show m≤h1.length; omega) (v0z m L N (k:Int) (i:Int) h1)).mono ?_)))
  rintro e s ⟨rfl,rfl⟩
  refine z0h (z0t (z00 (w5z (by omega) hv h0 hn hlt hk hf1 (Q:=fun s'=>z2u P34 m (.cond (.tmp 21) .ret .skip) s' _) fun h2 hl2 hf2=>?_)))
  refine z1x (t:=false) rfl ?_
  rw [if_neg (by simp)]
  refine z4r ?_
  show z2u P34 m (cdF 78 ([true,true,true]++C78)) ⟨z8h L N (k:Int) (i:Int)++[(21, .d (.bool false))],h2,24⟩ _
  refine z09 (s':=⟨z8h L N (k:Int) (i:Int),h2,24⟩) (z2a.env (n:=m) (s:=⟨_,h2,24⟩) (y75 rfl rfl rfl rfl rfl rfl)) ?_
  refine z0t ((rgN v2f (by show m≤h2.length; omega) (v00 m L N (k:Int) (i:Int) h2)).mono ?_)
  rintro e s ⟨rfl,rfl⟩
  rw [w8k (i:=i) (by omega)]
  exact ⟨⟨z8h L N (k:Int) ((i+1:Nat):Int),h2,24⟩,z2a.env (n:=m) (s:=⟨_,h2,24⟩) (y75 rfl rfl rfl rfl rfl rfl),⟨⟨(i+1,h2),hlt,by show h.length≤h2.length; omega,hf2⟩,rfl,by show k - (i+1)<k - i; omega⟩⟩
 ·have hik:i=k:=by have:i≤k:=hi; omega
  subst hik
  have hc:std.cmp .lss (i:Int) (i:Int)=false:=by rw [z4k]; exact decide_eq_false (by omega)
  refine z1x (t:=false) (by show AV.d (.bool (std.cmp .lss (i:Int) (i:Int)))=_; rw [hc]) ?_
  rw [if_neg (by simp)]
  refine z09 (s':=⟨z7n L N (i:Int),h1,24⟩) (z2a.env (n:=m) (s:=⟨_,h1,24⟩) (y04 rfl rfl rfl)) ?_
  exact z6e (hQ h1 hl1 hf1)
theorem w55 {m:Nat} {h:List AO} (hm:m≤h.length) {N:Nat} (hN:N≤10) {S:Int} {l:List Vt} {n:Nat} (hv:∀ v∈l,¬ z6l N n v) (h0:0<n) (hn:n≤1000) {P F X L:Nat}
  (hf:x09 h N S (z0g l) n (fun j=>z1i l (j:Int)) P F X L (y48 l S n 0))
  {Q:AX→AS→Prop} (hQ:∀ h',h.length≤h'.length→x09 h' N S (z0g l) n (fun j=>z1i l (j:Int)) P F X L (y48 l S n N)→Q (.exit 0) ⟨z7n L N (N:Int),h',24⟩):
  z2u P34 m (.loop (cdF 78 A78)) ⟨z7n L N ((0:Nat):Int),h,24⟩ Q:=by
 let ι:={ x:Nat×List AO // x.1≤N∧h.length≤x.2.length∧x09 x.2 N S (z0g l) n (fun j=>z1i l (j:Int)) P F X L (y48 l S n x.1) }
 let I:ι→AS:=fun q=>⟨z7n L N (q.1.1:Nat),q.1.2,24⟩
 refine z7v (ι:=ι) I (fun q=>N - q.1.1) (fun _ _=>rfl) ?_ ⟨(0,h),Nat.zero_le _,Nat.le_refl _,hf⟩
 rintro ⟨⟨k,h1⟩,hkN,hl1,hf1⟩
 have hl1:h.length≤h1.length:=hl1
 have hf1:x09 h1 N S (z0g l) n (fun j=>z1i l (j:Int)) P F X L (y48 l S n k):=hf1
 rw [sA78]
 refine z0h ?_
 refine (rgN v2k (by show m≤h1.length; omega) (v05 m L N (k:Int) h1)).mono ?_
 rintro e s ⟨rfl,rfl⟩
 refine z0h ?_
 by_cases hlt:k<N
 ·have hc:std.cmp .lss (k:Int) (N:Int)=true:=by rw [z4k]; exact decide_eq_true (by omega)
  refine z1x (t:=true) (by show AV.d (.bool (std.cmp .lss (k:Int) (N:Int)))=_; rw [hc]) ?_
  rw [if_pos rfl]
  refine z4r ?_
  refine z09 (s':=⟨z7n L N (k:Int),h1,24⟩) (z2a.env (n:=m) (s:=⟨_,h1,24⟩) (y04 rfl rfl rfl)) ?_
  refine z0h (z1h (z0h ((rgN v2i (by show m≤h1.length; omega) (v03 m L N (k:Int) h1)).mono ?_)))
  rintro e s ⟨rfl,rfl⟩
  refine z09 (s':=⟨z7n L N (k:Int)++[(3, .d (.int .i64 (k:Int)))],h1,24⟩) (z2a.env (n:=m) (s:=⟨_,h1,24⟩) (z06 fun x hx=>by
   simp only [z7n,List.cons_append,List.nil_append,List.mem_cons,List.not_mem_nil,or_false] at hx
   rcases hx with rfl|rfl|rfl|rfl<;>rfl)) ?_
  refine z0h ((rgN v2h (by show m≤h1.length; omega) (v02 m L N (k:Int) h1)).mono ?_)
  rintro e s ⟨rfl,rfl⟩
  refine z1h ?_
  refine w62 (m:=m) (by omega) hv h0 hn (k:=k) (by omega) hf1 fun h2 hl2 hf2=>?_
  simp only [if_true]
  refine z0t ((rgN v2j (by show m≤h2.length; omega) (v04 m L N (k:Int) h2)).mono ?_)
  rintro e s ⟨rfl,rfl⟩
  rw [w8k (i:=k) (by omega)]
  exact ⟨⟨z7n L N ((k+1:Nat):Int),h2,24⟩,z2a.env (n:=m) (s:=⟨_,h2,24⟩) (y04 rfl rfl rfl),⟨⟨(k+1,h2),hlt,by show h.length≤h2.length; omega,hf2⟩,rfl,by show N - (k+1)<N - k; omega⟩⟩
 ·have hik:k=N:=by have:k≤N:=hkN; omega
  subst hik
  have hc:std.cmp .lss (k:Int) (k:Int)=false:=by rw [z4k]; exact decide_eq_false (by omega)
  refine z1x (t:=false) (by show AV.d (.bool (std.cmp .lss (k:Int) (k:Int)))=_; rw [hc]) ?_
  rw [if_neg (by simp)]
  refine z09 (s':=⟨z7n L k (k:Int),h1,24⟩) (z2a.env (n:=m) (s:=⟨_,h1,24⟩) (y04 rfl rfl rfl)) ?_
  exact z6e (hQ h1 hl1 hf1)
theorem ld85 {env:List (Nat×AV)} {h:List AO} {new a X F:Nat} (ha:z0r env a= .bptr X 0) (hh:z0e h X= .box [.bptr F 0]):
  z0j std E34.T env h new false [] [] (.load 85 (.tmp a))=some ⟨true, .bptr F 0,[]⟩:=by
 cases ht:E34.T 85 with
 |none=>have:=v3u; rw [ht] at this; cases this
 |some ti=>
  have h1:=v3u
  rw [ht] at h1
  simp only [Option.map_some,Option.some.injEq,Prod.mk.injEq] at h1
  simp only [z0j,z0n,ha,ht,z5n,z1n,hh,h1.1,h1.2.1]
  rfl
theorem w4y {env:List (Nat×AV)} {h:List AO} {t:TypeId} {a F off:Nat} {es:List (List D)} {y:D} (ha:z0r env a= .bptr F off) (hh:z0e h F= .row es) (he:es[off]?=some [y]):(z1b std E34.T env h (.load t (.tmp a))).ok false [y] []:=by
 simp only [z1b,z0n,ha,z5n,z24,hh,y3h.ok]
 intro j x hx
 match j,hx with
 |0,hx=>cases hx; exact ⟨[y],he,z7g _⟩
 |j+1,hx=>simp at hx
theorem ldR3 {env:List (Nat×AV)} {h:List AO} {new a F off:Nat} {es:List (List D)} {y:Int} (ha:z0r env a= .bptr F off) (hh:z0e h F= .row es):
  z0j std E34.T env h new false [.int .i64 y] [] (.load 3 (.tmp a))=some ⟨true, .d (.int .i64 y),[]⟩:=by
 cases ht:E34.T 3 with
 |none=>have:=ty3; rw [ht] at this; cases this
 |some ti=>
  have h1:=ty3
  rw [ht] at h1
  simp only [Option.map_some,Option.some.injEq,Prod.mk.injEq] at h1
  simp only [z0j,z0n,ha,ht,z5n,z1n,hh,h1.1,h1.2.1]
  rfl
theorem v2b {s0:AS} {m:Nat} (hm:m≤s0.heap.length) {N:Nat} (hN:N≤10) {S:Int} {l:List Vt} {n:Nat} (hv:∀ v∈l,¬ z6l N n v) (h0:0<n) (hn:n≤1000) {P F X L:Nat} (hX:z0e s0.heap X= .box [.bptr F 0])
  (hf:x09 s0.heap N S (z0g l) n (fun j=>z1i l (j:Int)) P F X L (y48 l S n 0)):
  w3o P34 m 78 [.yld L, .bptr X 0] s0 fun r sc=>sc.env=s0.env∧sc.nt=s0.nt∧s0.heap.length≤sc.heap.length∧x09 sc.heap N S (z0g l) n (fun j=>z1i l (j:Int)) P F X L (y48 l S n N):=by
 obtain ⟨fn,hfn,hb,hnt,hres⟩:=fn78
 refine y8p x3r hm hfn hb hnt (by show 2≤24; omega) ?_
 obtain ⟨env,h,nt⟩:=s0
 rw [hres,s78]
 have hX:z0e h X= .box [.bptr F 0]:=hX
 have hf:x09 h N S (z0g l) n (fun j=>z1i l (j:Int)) P F X L (y48 l S n 0):=hf
 have r0:List.range (z2v 78 [false]).size=[0,1,2,3,4]:=by kernel_rfl
 obtain ⟨w0,o0⟩:=z05 (g:=78) (p:=[false]) (i:=0) (dst:=some 5) (op:= .load 85 (.tmp 1)) (by kernel_rfl)
 obtain ⟨w1,o1⟩:=z05 (g:=78) (p:=[false]) (i:=1) (dst:=some 6) (op:= .nilCheck (.tmp 5)) (by kernel_rfl)
 obtain ⟨w2,o2⟩:=z05 (g:=78) (p:=[false]) (i:=2) (dst:=some 7) (op:= .fieldAddr 75 (.tmp 6) 0) (by kernel_rfl)
 obtain ⟨w3,o3⟩:=z05 (g:=78) (p:=[false]) (i:=3) (dst:=some 8) (op:= .load 3 (.tmp 7)) (by kernel_rfl)
 obtain ⟨w4,o4⟩:=z05 (g:=78) (p:=[false]) (i:=4) (dst:=some 9) (op:= .move (.const (.int .i64 0))) (by kernel_rfl)
 have hF:=hf.fam.hF
 have hF0:(fld (N:Int) (y48 l S n 0))[0]?=some [.int .i64 (N:Int)]:=rfl
 refine z0h (z00 ?_)
 rw [r0]
 refine osN o0 (Nat.le_refl _) (q:=false) (r:=[]) (ra:=[]) (res:=⟨true, .bptr F 0,[]⟩) (z2r rfl hX) (ld85 rfl hX) rfl rfl ?_
 refine osN o1 (Nat.le_refl _) (q:=false) (r:=[]) (ra:=[]) (res:=⟨true, .bptr F 0,[]⟩) trivial rfl rfl rfl ?_
 refine osN o2 (Nat.le_refl _) (q:=false) (r:=[]) (ra:=[]) (res:=⟨true, .bptr F 0,[]⟩) trivial (by
  show z0j std E34.T [(0, .yld L),(1, .bptr X 0),(5, .bptr F 0),(6, .bptr F 0)] h h.length false [] [] (.fieldAddr 75 (.tmp 6) 0)=_
  kernel_rfl) rfl rfl ?_
 refine osN o3 (Nat.le_refl _) (q:=false) (r:=[.int .i64 (N:Int)]) (ra:=[]) (res:=⟨true, .d (.int .i64 (N:Int)),[]⟩) (w4y rfl hF hF0) (ldR3 rfl hF) rfl rfl ?_
 refine osN o4 (Nat.le_refl _) (q:=false) (r:=[]) (ra:=[]) (res:=⟨true, .d (.int .i64 0),[]⟩) trivial rfl rfl rfl ?_
 refine z1w ?_
 show z2u P34 h.length (.block 0 (.loop (cdF 78 A78))) ⟨_,h,24⟩ _
 refine z09 (s':=⟨z7n L N ((0:Nat):Int),h,24⟩) (z2a.env (n:=h.length) (s:=⟨_,h,24⟩) (y04 rfl rfl rfl)) ?_
 refine z1h ?_
 refine w55 (Nat.le_refl _) hN hv h0 hn hf fun h' hl' hf'=>?_
 simp only [if_true]
 exact ⟨.inl trivial, .tuple [],rfl,trivial,trivial,hl',hf'⟩
end Go.Am
end
section
namespace Go.Am
theorem w69 (l:List Vt) (S:Int) (n:Nat) (g:Nat→Nat→Bool) (k i a b:Nat):w37 l S n g k i a b=true↔g a b=true∨(a<i∧b=k∧x9a l S n a k=true)∨(a=k∧b<i∧x9a l S n b k=false):=by
 induction i with
 |zero=>
  show g a b=true↔_
  constructor
  ·intro h; exact .inl h
  ·rintro (h|⟨h,_⟩|⟨_,h,_⟩)
   ·exact h
   ·exact absurd h (Nat.not_lt_zero _)
   ·exact absurd h (Nat.not_lt_zero _)
 |succ i ih=>
  show (w37 l S n g k i a b||(bif x9a l S n i k then decide (a=i)&&decide (b=k) else decide (a=k)&&decide (b=i)))=true↔_
  rw [Bool.or_eq_true,ih]
  cases hd:x9a l S n i k with
  |true=>
   simp only [cond_true,Bool.and_eq_true,decide_eq_true_eq]
   constructor
   ·rintro ((h|⟨h1,h2,h3⟩|⟨h1,h2,h3⟩)|⟨rfl,rfl⟩)
    ·exact .inl h
    ·exact .inr (.inl ⟨by omega,h2,h3⟩)
    ·exact .inr (.inr ⟨h1,by omega,h3⟩)
    ·exact .inr (.inl ⟨Nat.lt_succ_self _,rfl,hd⟩)
   ·rintro (h|⟨h1,h2,h3⟩|⟨h1,h2,h3⟩)
    ·exact .inl (.inl h)
    ·by_cases e:a=i
     ·exact .inr ⟨e,h2⟩
     ·exact .inl (.inr (.inl ⟨by omega,h2,h3⟩))
    ·by_cases e:b=i
     ·subst e; rw [hd] at h3; cases h3
     ·exact .inl (.inr (.inr ⟨h1,by omega,h3⟩))
  |false=>
   simp only [cond_false,Bool.and_eq_true,decide_eq_true_eq]
   constructor
   ·rintro ((h|⟨h1,h2,h3⟩|⟨h1,h2,h3⟩)|⟨rfl,rfl⟩)
    ·exact .inl h
    ·exact .inr (.inl ⟨by omega,h2,h3⟩)
    ·exact .inr (.inr ⟨h1,by omega,h3⟩)
    ·exact .inr (.inr ⟨rfl,Nat.lt_succ_self _,hd⟩)
   ·rintro (h|⟨h1,h2,h3⟩|⟨h1,h2,h3⟩)
    ·exact .inl (.inl h)
    ·by_cases e:a=i
     ·subst e; rw [hd] at h3; cases h3
     ·exact .inl (.inr (.inl ⟨by omega,h2,h3⟩))
    ·by_cases e:b=i
     ·exact .inr ⟨h1,e⟩
     ·exact .inl (.inr (.inr ⟨h1,by omega,h3⟩))
theorem x8f (l:List Vt) (S:Int) (n N a b:Nat):y48 l S n N a b=true↔(a<b∧b<N∧x9a l S n a b=true)∨(b<a∧a<N∧x9a l S n b a=false):=by
 induction N with
 |zero=>
  constructor
  ·intro h; cases h
  ·rintro (⟨_,h,_⟩|⟨_,h,_⟩)<;>exact absurd h (Nat.not_lt_zero _)
 |succ k ih=>
  show w37 l S n (y48 l S n k) k k a b=true↔_
  rw [w69,ih]
  constructor
  ·rintro ((⟨h1,h2,h3⟩|⟨h1,h2,h3⟩)|⟨h1,rfl,h3⟩|⟨rfl,h2,h3⟩)
   ·exact .inl ⟨h1,by omega,h3⟩
   ·exact .inr ⟨h1,by omega,h3⟩
   ·exact .inl ⟨h1,by omega,h3⟩
   ·exact .inr ⟨h2,by omega,h3⟩
  ·rintro (⟨h1,h2,h3⟩|⟨h1,h2,h3⟩)
   ·by_cases e:b=k
    ·subst e; exact .inr (.inl ⟨h1,rfl,h3⟩)
    ·exact .inl (.inl ⟨h1,by omega,h3⟩)
   ·by_cases e:a=k
    ·subst e; exact .inr (.inr ⟨rfl,h1,h3⟩)
    ·exact .inl (.inr ⟨h1,by omega,h3⟩)
theorem w17 (l:List Vt) (S:Int) (n N i k:Nat) (h:N≤k):y48 l S n N i k=false:=by
 cases hb:y48 l S n N i k with
 |false=>rfl
 |true=>
  rcases (x8f l S n N i k).1 hb with ⟨_,h2,_⟩|⟨h1,h2,_⟩<;>omega
theorem w7a {l:List Vt} {N J:Int} (hv:∀ v∈l,¬ z6l N J v) {M:Nat} (hN:N=M) (S:Int) (n:Nat) {a b:Nat} (ha:a<M) (hb:b<M):y48 l S n M a b=beK l M n S a b:=by
 rw [Bool.eq_iff_iff,x8f]
 rcases Nat.lt_trichotomy a b with h|h|h
 ·obtain ⟨h1,h2⟩:=y5z hv hN S (m:=n) h
  rw [←h1]
  unfold x9a
  rw [decide_eq_true_eq]
  constructor
  ·rintro (⟨_,_,h3⟩|⟨h3,_⟩)
   ·exact h3
   ·omega
  ·intro h3; exact .inl ⟨h,hb,h3⟩
 ·subst h
  have e:beK l M n S a a=false:=by unfold beK; simp
  rw [e]
  constructor
  ·rintro (⟨h,_⟩|⟨h,_⟩)<;>omega
  ·intro h; cases h
 ·obtain ⟨h1,h2⟩:=y5z hv hN S (m:=n) h
  rw [h2]
  unfold x9a
  constructor
  ·rintro (⟨h3,_⟩|⟨_,_,h3⟩)
   ·omega
   ·rw [decide_eq_false_iff_not] at h3
    cases hq:beK l M n S b a with
    |false=>rfl
    |true=>exact absurd (h1.2 hq) h3
  ·intro h3
   refine .inr ⟨h,ha,decide_eq_false fun h4=>?_⟩
   rw [h1.1 h4] at h3; cases h3
theorem w18 {l:List Vt} {N J:Int} (hv:∀ v∈l,¬ z6l N J v) {M:Nat} (hN:N=M) (S:Int) (n:Nat):dOf (y48 l S n M) M=dOf (beK l M n S) M:=by
 unfold dOf
 refine List.map_congr_left fun i hi=>?_
 congr 1
 refine List.filter_congr fun k hk=>?_
 exact w7a hv hN S n (List.mem_range.1 hi) (List.mem_range.1 hk)
theorem v2d {n:Nat} {env:List (Nat×AV)} {h:List AO} {nt F:Nat} {N:Nat} (hN:N≤10) {g:Nat→Nat→Bool} (hsup:∀ i k,N≤k→g i k=false) (hn:n≤h.length) (hF:z0e h F= .row (fld N g)) (hl:F<h.length):
  z4f P34 n 49 [.bptr F 0] ⟨env,h,nt⟩ (.d (.list false 1 (z08 fe (dOf g N)))) ⟨env,z0o h F (.row (fld N g)),nt⟩:=by
 obtain ⟨hle,har⟩:=v94.2 (fld N g,()) _ (v3i g N hN hsup)
 have hth:z5c h.length [some F]=true:=by
  simp only [z5c,Bool.and_true]
  exact Nat.ble_eq_true_of_le hl
 have:=z9g (P:=P34) (n:=n) (s:=⟨env,h,nt⟩) (σ:=[some F]) hn (by rfl) hth (g:=49) (args:=[.bptr F 0]) hle (fun ρ w hr=>?_) har
 ·exact this
 ·refine ⟨⟨.inr (.inl ⟨_,rfl, .inl hF⟩),trivial⟩,rfl,fun f hf i y hy=>?_⟩
  match i,hy with
  |0,hy=>
   cases hy
   have h0:=hf 0 _ rfl
   generalize f 0=v at h0⊢
   cases h0 with
   |bptr _ _ L hL=>exact .bptr 0 0 L hL
  |i+1,hy=>
   have hy:([AV.bptr 0 0])[i+1]?=some y:=hy
   simp at hy
def x47:List Bool:=[false,true,true,true,true,true]
theorem s17:cdF 17 []= .seq (cdF 17 [false]) (.seq (.region 1 (z2v 17 x6d) false) (.seq (cdF 17 [false,true,true]) (.seq (.region 4 (z2v 17 x6c) false) (.seq (.seq (.region 5 (z2v 17 w8r) false) (.block 0 (.rangeFunc (.tmp 25) #[26] (.region 6 (z2v 17 (false::R17)) false) (.block 1 (cdF 17 X17))))) (.seq (.region 17 (z2v 17 x47) false) .ret))))):=by kernel_rfl
theorem v2v:z07 P34 17 [false]=some (cdF 17 [false]):=by kernel_rfl
theorem v2l:z07 P34 17 [false,true,true]=some (cdF 17 [false,true,true]):=by kernel_rfl
theorem v1g (N J S:Int) (V:List (List D)):w5p 17 [false] [(0,y15 N J S V)] [] 69=some (.normal,⟨⟨[(0,y15 N J S V),(1, .bptr 0 0),(2, .d (.list true 0 [])),(3, .d (.int .i64 0))],[.box (bkC N J S V)],69⟩,[]⟩):=by kernel_rfl
theorem v06 (x:AV) (e:Int) (h:List AO):w5p 17 [false,true,true] [(1, .bptr 0 0),(2, .d (.list true 0 [])),(3, .d (.int .i64 0)),(4,x),(5, .d (.int .i64 e))] h 69=opt.ask _ (std.cmp .neq e 0)
  (some (.ret,⟨⟨[(1, .bptr 0 0),(2, .d (.list true 0 [])),(3, .d (.int .i64 e)),(4,x),(5, .d (.int .i64 e)),(16, .d (.int .i64 e)),(17, .d (.bool true)),(18, .d (.int .i64 e))],h,69⟩,[]⟩))
  (some (.normal,⟨⟨[(1, .bptr 0 0),(2, .d (.list true 0 [])),(3, .d (.int .i64 0)),(4,x),(5, .d (.int .i64 e)),(16, .d (.int .i64 e)),(17, .d (.bool false))],h,69⟩,[]⟩)):=by kernel_rfl
theorem u0m:∃ fn,P34.funcs[17]?=some fn∧fn.body=some (cdF 17 [])∧fn.ntmps=69∧fn.results.toList=[.tmp 2, .tmp 3]:=by
 have:(P34.funcs[17]?.map fun fn=>(fn.body,fn.ntmps,fn.results.toList))=some (some (cdF 17 []),69,[.tmp 2, .tmp 3]):=by kernel_rfl
 cases hq:P34.funcs[17]? with
 |none=>rw [hq] at this; cases this
 |some fn=>
  rw [hq] at this
  simp only [Option.map_some,Option.some.injEq,Prod.mk.injEq] at this
  exact ⟨fn,rfl,this.1,this.2.1,this.2.2⟩
theorem x84:z13 P34 49:=enters_auto (b:=_) rfl (by kernel_rfl)
theorem x52 {N J S e:Int} {V:List (List D)} (h19:G19 std (N,(J,(S,(V,()))))=some (e,())) (he:e≠0):z6m P34 17 [y15 N J S V] [] (.tuple [.d (.list true 0 []), .d (.int .i64 e)]) []:=by
 obtain ⟨fn,hf,hb,hnt,hres⟩:=u0m
 refine z23 x3r hf hb hnt (by show 1≤69; omega) ?_
 rw [hres,s17]
 refine z0h ((rgF v2v (v1g N J S V)).mono ?_)
 rintro e1 s1 ⟨rfl,rfl⟩
 refine z0h (z0t (z00 (x7i (y67 h19 he) ⟨rfl,rfl⟩ (Q:=fun s'=>z2u P34 0 (.seq (cdF 17 [false,true,true]) _) s' _) ?_)))
 have hc:std.cmp .neq e 0=true:=by rw [x1m,decide_eq_false he]; rfl
 refine z0h (z0t ((rgF v2l ((v06 _ e _).trans (by rw [hc]; rfl))).mono ?_))
 rintro e1 s1 ⟨rfl,rfl⟩
 refine ⟨_,z2a.view (n:=0) (s:=⟨_,_,69⟩) (fun _=>false) (fun id hid=>absurd hid (Nat.not_lt_zero _)) (z9f _), .inr rfl,?_,rfl⟩
 rfl
theorem v3c {S:Int} {N n:Nat} (hN:N≤10) {l:List Vt} (h19:G19 std ((N:Int),((n:Int),(S,(z0g l,()))))=some (0,())) (h0:0<n) (hn:n≤1000) (hl:l.length≤1000) (hj:∀ v∈l,0≤v.1∧v.1<(n:Int)) (hv:∀ v∈l,¬ z6l N n v):
  z6m P34 17 [y15 N n S (z0g l)] [] (.tuple [.d (.list false 1 (z08 fe (dOf (y48 l S n N) N))), .d (.int .i64 0)]) []:=by
 obtain ⟨fn,hf,hb,hnt,hres⟩:=u0m
 refine z23 x3r hf hb hnt (by show 1≤69; omega) ?_
 rw [hres,s17]
 refine z0h ((rgF v2v (v1g N n S (z0g l))).mono ?_)
 rintro e1 s1 ⟨rfl,rfl⟩
 refine z0h (z0t (z00 (x7i (w4p h19 hn hl hj) ⟨rfl,rfl⟩ (Q:=fun s'=>z2u P34 0 (.seq (cdF 17 [false,true,true]) _) s' _) ?_)))
 have hfam:=x3w [.box (bkC N n S (z0g l))] N n S (z0g l) n (fun i=>z1i l (i:Int))
 have e1:([AO.box (bkC N n S (z0g l))]:List AO).length=1:=rfl
 rw [e1] at hfam
 have er:z5e (z1d [] 1) (.bptr 1 0)= .bptr 2 0:=rfl
 rw [er]
 generalize z1g (z1d [] 1) [.box (bkC N n S (z0g l))] 0 (x5w N n S (z0g l) n (fun i=>z1i l (i:Int)))=H at hfam⊢
 have hlen:=hfam.len
 have l1:(z0o (z0o H H.length (.box [.d .nilp])) H.length (.box [.bptr 2 0])).length=H.length+1:=by rw [z0q _ _ _ (by rw [z1c]; omega),z1c]
 have k1:∀ j,j<H.length→z0e (z0o (z0o H H.length (.box [.d .nilp])) H.length (.box [.bptr 2 0])) j=z0e H j:=fun j hj=>by rw [z0a _ _ _ _ (by omega),z0a _ _ _ _ (by omega)]
 have m1:z0e (z0o (z0o H H.length (.box [.d .nilp])) H.length (.box [.bptr 2 0])) H.length= .box [.bptr 2 0]:=z0b _ _ _
 generalize z0o (z0o H H.length (.box [.d .nilp])) H.length (.box [.bptr 2 0])=H1 at l1 k1 m1⊢
 have hfam1:=hfam.keep (h':=H1) (by omega) (fun j _ hj=>k1 j (by omega))
 refine z0h ((rgF v2l (v06 (.bptr H.length 0) 0 H1)).mono ?_)
 rintro e1 s1 ⟨rfl,rfl⟩
 refine z09 (s':=⟨[(4, .bptr H.length 0)],H1,69⟩) (z2a.env (n:=0) (s:=⟨_,H1,69⟩) (z06 fun x hx=>by
  simp only [List.mem_cons,List.not_mem_nil,or_false] at hx
  rcases hx with rfl; rfl)) ?_
 refine z0h (z0t (z00 (w52 m1 hfam1.b1 (Q:=fun s'=>z2u P34 0 (.seq (.seq (.region 5 (z2v 17 w8r) false) _) _) s' _) ?_)))
 have l2:(z0o (z0o H1 H1.length (.row (std.rep 101 [.int .i64 0]))) H1.length (.row (fld N (fun _ _=>false)))).length=H1.length+1:=by rw [z0q _ _ _ (by rw [z1c]; omega),z1c]
 have k2:∀ j,j<H1.length→z0e (z0o (z0o H1 H1.length (.row (std.rep 101 [.int .i64 0]))) H1.length (.row (fld N (fun _ _=>false)))) j=z0e H1 j:=fun j hj=>by rw [z0a _ _ _ _ (by omega),z0a _ _ _ _ (by omega)]
 have m2:z0e (z0o (z0o H1 H1.length (.row (std.rep 101 [.int .i64 0]))) H1.length (.row (fld N (fun _ _=>false)))) H1.length= .row (fld N (fun _ _=>false)):=z0b _ _ _
 generalize z0o (z0o H1 H1.length (.row (std.rep 101 [.int .i64 0]))) H1.length (.row (fld N (fun _ _=>false)))=H2 at l2 k2 m2⊢
 have hfam2:=hfam1.keep (h':=H2) (by omega) (fun j _ hj=>k2 j (by omega))
 refine z0h (z0h (z00 (w50 ?_)))
 have l3:(z0o H2 H2.length (.box [.bptr H1.length 0])).length=H2.length+1:=z1c _ _
 have k3:∀ j,j<H2.length→z0e (z0o H2 H2.length (.box [.bptr H1.length 0])) j=z0e H2 j:=fun j hj=>z0a _ _ _ _ (by omega)
 have m3:z0e (z0o H2 H2.length (.box [.bptr H1.length 0])) H2.length= .box [.bptr H1.length 0]:=z0b _ _ _
 generalize z0o H2 H2.length (.box [.bptr H1.length 0])=H3 at l3 k3 m3⊢
 have hfam3:=hfam2.keep (h':=H3) (by omega) (fun j _ hj=>k3 j (by omega))
 show z2u P34 0 (.block 0 (.rangeFunc (.tmp 25) #[26] _ _)) ⟨z7t H.length H1.length H2.length,H3,69⟩ _
 refine z1h ?_
 have l4:(z0o H3 H3.length (.loop .ready none 17 R17 69 (z7t H.length H1.length H2.length))).length=H3.length+1:=z1c _ _
 have k4:∀ j,j<H3.length→z0e (z0o H3 H3.length (.loop .ready none 17 R17 69 (z7t H.length H1.length H2.length))) j=z0e H3 j:=fun j hj=>z0a _ _ _ _ (by omega)
 have m4:z0e (z0o H3 H3.length (.loop .ready none 17 R17 69 (z7t H.length H1.length H2.length))) H3.length= .loop .ready none 17 R17 69 (z7t H.length H1.length H2.length):=z0b _ _ _
 refine y4x (g:=78) (first:=[]) (captured:=[.bptr H2.length 0]) v9x rfl w2f (Nat.zero_le _) ?_
 show w3o P34 (H3.length+1) 78 [.yld H3.length, .bptr H2.length 0] ⟨z7t H.length H1.length H2.length,z0o H3 H3.length (.loop .ready none 17 R17 69 (z7t H.length H1.length H2.length)),69⟩ _
 generalize z0o H3 H3.length (.loop .ready none 17 R17 69 (z7t H.length H1.length H2.length))=H4 at l4 k4 m4⊢
 have hfam4:=hfam3.keep (h':=H4) (by omega) (fun j _ hj=>k4 j (by omega))
 have hL:x09 H4 N S (z0g l) n (fun j=>z1i l (j:Int)) H.length H1.length H2.length H3.length (y48 l S n 0):=
  ⟨⟨hfam4,by rw [k4 _ (by omega),k3 _ (by omega),k2 _ (by omega)]; exact m1,by rw [k4 _ (by omega),k3 _ (by omega)]; exact m2,hlen,by omega,by omega⟩,m4,by omega,by omega⟩
 have hcall:=v2b (s0:=⟨z7t H.length H1.length H2.length,H4,69⟩) (m:=H3.length+1) (by show H3.length+1≤H4.length; omega) hN hv h0 hn (X:=H2.length) (F:=H1.length) (by show z0e H4 _=_; rw [k4 _ (by omega)]; exact m3) hL
 refine ⟨fun ρ vs tm w cs q1 q2=>?_⟩
 obtain ⟨r,sc,ρ',v,w',fr,⟨a1,a2,a3,a4⟩,a5⟩:=hcall.run ρ vs tm w cs q1 q2
 refine ⟨r,sc,ρ',v,w',fr,?_,a5⟩
 obtain ⟨env5,H5,nt5⟩:=sc
 have a1:env5=z7t H.length H1.length H2.length:=a1
 have a2:nt5=69:=a2
 subst a1 a2
 have a3:H4.length≤H5.length:=a3
 have a4:x09 H5 N S (z0g l) n (fun j=>z1i l (j:Int)) H.length H1.length H2.length H3.length (y48 l S n N):=a4
 refine ⟨.ready,none,17,R17,z7t H.length H1.length H2.length,69, .normal,⟨z7t H.length H1.length H2.length,z0o H5 H3.length .dead,69⟩,a4.lp,by simp,rfl,?_⟩
 show z2u P34 0 (.seq (.region 17 (z2v 17 x47) false) .ret) ⟨z7t H.length H1.length H2.length,z0o H5 H3.length .dead,69⟩ _
 have l6:(z0o H5 H3.length .dead).length=H5.length:=z0q _ _ _ (by omega)
 have m6:z0e (z0o H5 H3.length .dead) H1.length= .row (fld N (y48 l S n N)):=by rw [z0a _ _ _ _ (by omega)]; exact a4.fam.hF
 generalize z0o H5 H3.length .dead=H6 at l6 m6⊢
 have hr:List.range (z2v 17 x47).size=[0,1,2]:=by kernel_rfl
 obtain ⟨w0,o0⟩:=z05 (g:=17) (p:=x47) (i:=0) (dst:=some 68) (op:= .call ⟨.value (.func 49),#[.tmp 6],#[75]⟩) (by kernel_rfl)
 obtain ⟨w1,o1⟩:=z05 (g:=17) (p:=x47) (i:=1) (dst:=some 2) (op:= .assign (.tmp 68)) (by kernel_rfl)
 obtain ⟨w2,o2⟩:=z05 (g:=17) (p:=x47) (i:=2) (dst:=some 3) (op:= .assign (.const (.int .i64 0))) (by kernel_rfl)
 refine z0h (z00 ?_)
 rw [hr]
 refine x29 o0 x84 (v2d hN (w17 l S n N) (Nat.zero_le _) m6 (by omega)) rfl ?_
 show z4v P34 0 _ [1,2] ⟨_,z0o H6 H1.length (.row (fld N (y48 l S n N))),69⟩ _
 generalize z0o H6 H1.length (.row (fld N (y48 l S n N)))=H7
 refine z3w o1 (q:=false) (r:=[]) (ra:=[]) (res:=⟨true, .d (.list false 1 (z08 fe (dOf (y48 l S n N) N))),[]⟩) trivial rfl rfl rfl ?_
 refine z3w o2 (q:=false) (r:=[]) (ra:=[]) (res:=⟨true, .d (.int .i64 0),[]⟩) trivial rfl rfl rfl ?_
 refine z1w ?_
 refine z0t (y8j ?_)
 refine ⟨_,z2a.view (n:=0) (s:=⟨_,H7,69⟩) (fun _=>false) (fun id hid=>absurd hid (Nat.not_lt_zero _)) (z9f H7), .inr rfl,?_,rfl⟩
 rfl
noncomputable def z6v:Ctr:=
 ⟨17,[.agg [.int .i64, .int .i64, .int .i64, .list 3]],[],[(.ret,⟨[(0, .tuple [.list 1, .int .i64])],[],1⟩)]⟩
def q17 (x:Int×(Int×(Int×(List (List D)×Unit)))):Option (List (List D)×(Int×Unit)):=
 match x0p x.2.2.2.1 with
 |none=>none
 |some l=>if z3y x.1 x.2.1 x.2.2.1 l=0 then some (z08 fe (dOf (beK l x.1.toNat x.2.1.toNat x.2.2.1) x.1.toNat),(0,())) else some ([],(z3y x.1 x.2.1 x.2.2.1 l,()))
noncomputable def w3l:(p:Prim)→(Int×(Int×(Int×(List (List D)×Unit))))→Option (List (List D)×(Int×Unit)):=fun p x=>q17 x
noncomputable def u1j:Prim→Tup (z6v).scs→Option (STup (scss (z6v).outs)):=fun p x=>w3l p x
theorem x85:z13 P34 17:=enters_auto (b:=_) rfl (by kernel_rfl)
theorem v5b:CtrOk P34 z6v (u1j std):=by
 have key:∀ (N J S:Int) (V:List (List D)) (y:STup (scss (z6v).outs)),q17 (N,(J,(S,(V,()))))=some y→(y2z std z6v (z91 (z6v).scs (N,(J,(S,(V,())))))).2.length≤(z1s std (z6v).outs y).2.s.heap.length∧
   z6m P34 17 (y2z std z6v (z91 (z6v).scs (N,(J,(S,(V,())))))).1 (y2z std z6v (z91 (z6v).scs (N,(J,(S,(V,())))))).2 (z0r (z1s std (z6v).outs y).2.s.env 0) (z1s std (z6v).outs y).2.s.heap:=by
  intro N J S V y hy
  unfold q17 at hy
  simp only at hy
  split at hy
  ·cases hy
  ·rename_i l hd
   have hV:=y8h hd
   subst hV
   by_cases h0:z3y N J S l=0
   ·rw [if_pos h0] at hy
    cases hy
    obtain ⟨h1,h2,h3,h4,h5,h6,h7,h8,h9,h10,h11⟩:=x9s h0
    have h19:=x4m N J S l
    rw [h0] at h19
    have h10':∀ v∈l,¬ z6l (N.toNat:Int) (J.toNat:Int) v:=by rw [h2,h5]; exact h10
    have h:=v3c (N:=N.toNat) (S:=S) (n:=J.toNat) (l:=l) h4 (by rw [h2,h5]; exact h19) (by omega) (by omega) (by omega) h11 h10'
    rw [w18 h10' rfl,h5,h2] at h
    exact ⟨Nat.le_refl _,h⟩
   ·rw [if_neg h0] at hy
    cases hy
    exact ⟨Nat.le_refl _,(x52 (x4m N J S l) h0).soft (.inr ⟨1,rfl, .inr rfl⟩)⟩
 exact ⟨x85,fun x y hy=>key x.1 x.2.1 x.2.2.1 x.2.2.2.1 y hy⟩
end Go.Am
end
noncomputable section
namespace Go.Am
def ctr9:Ctr:=
 ⟨9,[.agg [.int .i64, .int .i64, .int .i64, .list 3], .int .u8, .int .u8, .int .u8],[],[(.ret,⟨[(0, .bool)],[],1⟩)]⟩
def la9:List LA:=
 [⟨9,[false,true,false,true,true,true,true,true,true,true],0,⟨⟨[(1, .int .u8),(2, .int .u8),(3, .int .u8),(4, .bptr 0 0),(9, .int .i64),(10, .bptr 1 0),(11, .bptr 2 0),(12, .bptr 3 0),(13, .list 1),(15, .int .i64)],[.box [.int .i64, .int .i64, .int .i64, .list 3], .box [.int .i64, .int .i64, .int .i64, .vec 4 3], .box [.int .i64, .int .i64, .int .i64, .vec 5 3], .box [.int .i64, .int .i64, .int .i64, .vec 6 3], .row [ci,ci,ci], .row [ci,ci,ci], .row [ci,ci,ci]],211⟩,[((AX.exit 0),⟨[(3, .int .u8),(4, .bptr 0 0),(9, .int .i64),(10, .bptr 1 0),(11, .bptr 2 0),(12, .bptr 3 0),(13, .list 1)],[.box [.int .i64, .int .i64, .int .i64, .list 3], .box [.int .i64, .int .i64, .int .i64, .vec 4 3], .box [.int .i64, .int .i64, .int .i64, .vec 5 3], .box [.int .i64, .int .i64, .int .i64, .vec 6 3], .row [ci,ci,ci], .row [ci,ci,ci], .row [ci,ci,ci]],211⟩)]⟩⟩]
def ja9:List JA:=
 [⟨9,[false,false,true,true,true,true,true,true,true,true],0,[(AX.normal,⟨[(3, .int .u8),(4, .bptr 0 0),(9, .int .i64),(10, .bptr 1 0),(11, .bptr 2 0),(12, .bptr 3 0),(13, .list 1),(126, .bool)],[.box [.int .i64, .int .i64, .int .i64, .list 3], .box [.int .i64, .int .i64, .int .i64, .vec 4 3], .box [.int .i64, .int .i64, .int .i64, .vec 5 3], .box [.int .i64, .int .i64, .int .i64, .vec 6 3], .row [ci,ci,ci], .row [ci,ci,ci], .row [ci,ci,ci]],211⟩)]⟩,
 ⟨9,[true,true,true,true,true,false,false,true,false,false,true,false,true,true,true,true,true,true,true],0,[(AX.normal,⟨[(1, .int .u8),(2, .int .u8),(3, .int .u8),(4, .bptr 0 0),(9, .int .i64),(10, .bptr 1 0),(11, .bptr 2 0),(12, .bptr 3 0),(13, .list 1),(15, .int .i64)],[.box [.int .i64, .int .i64, .int .i64, .list 3], .box [.int .i64, .int .i64, .int .i64, .vec 4 3], .box [.int .i64, .int .i64, .int .i64, .vec 5 3], .box [.int .i64, .int .i64, .int .i64, .vec 6 3], .row [ci,ci,ci], .row [ci,ci,ci], .row [ci,ci,ci]],211⟩)]⟩,
 ⟨9,[false,false,true],0,[(AX.normal,⟨[(1, .int .u8),(2, .int .u8),(3, .int .u8),(4, .bptr 0 0),(35, .bool)],[.box [.int .i64, .int .i64, .int .i64, .list 3]],211⟩)]⟩,
 ⟨9,[false,true,true,true,true,true,true,true,true,true,true,true,true,true,true],0,[(AX.normal,⟨[(8, .bool)],[],211⟩)]⟩,
 ⟨9,[true,false,true,true,true,true,true,true,true,true],0,[(AX.normal,⟨[(4, .bptr 0 0),(10, .bptr 1 0),(11, .bptr 2 0),(12, .bptr 3 0),(13, .list 1)],[.box [.int .i64, .int .i64, .int .i64, .list 3], .box [.int .i64, .int .i64, .int .i64, .vec 4 3], .box [.int .i64, .int .i64, .int .i64, .vec 5 3], .box [.int .i64, .int .i64, .int .i64, .vec 6 3], .row [ci,ci,ci], .row [ci,ci,ci], .row [ci,ci,ci]],211⟩)]⟩,
 ⟨9,[false,false,true,true,true,true,true,true],0,[(AX.normal,⟨[(1, .int .u8),(2, .int .u8),(3, .int .u8),(4, .bptr 0 0),(9, .int .i64),(10, .bptr 1 0),(11, .bptr 2 0),(12, .bptr 3 0),(13, .list 1),(62, .bool)],[.box [.int .i64, .int .i64, .int .i64, .list 3], .box [.int .i64, .int .i64, .int .i64, .nils], .box [.int .i64, .int .i64, .int .i64, .nils], .box [.int .i64, .int .i64, .int .i64, .nils]],211⟩)]⟩]
def gam9:List CF:=
 [⟨w21,G21⟩,⟨w7u,G22⟩,⟨w20,G27⟩,⟨z6v,u1j⟩,⟨z6w,u1k⟩,⟨v18,G14⟩,⟨v16,G20⟩]
def an9:Anns:=
 ⟨gam9,ja9,[⟨9,[false,true,true,true,true,true,true,true,true,true],⟨[(4, .bptr 0 0),(10, .ref [.int .i64, .int .i64, .int .i64, .list 3]),(11, .ref [.int .i64, .int .i64, .int .i64, .list 3]),(12, .ref [.int .i64, .int .i64, .int .i64, .list 3]),(13, .list 1)],[.box [.int .i64, .int .i64, .int .i64, .list 3]],211⟩⟩]⟩
def w4n (p:Prim):(LD×(LD×(LD×T26)))→Option ((LD×(LD×(LD×T26)))⊕(LD×(LD×(LD×T42)))):=
 fun a=>opt.run _ (
 opt.ask _ (p.cmp .lss a.2.2.2.2.2.2.2.2.2.2.2.2.2.2.2.2.2.2.2.2.2.1 a.2.2.2.2.2.2.2.2.2.2.2.2.2.2.2.2.2.2.2.1) (
 opt.need _ (p.cmp .neq a.2.2.2.2.2.2.2.2.2.2.2.2.2.2.2.2.2.2.2.1 (0:Int))<|
 opt.need _ (p.rowOk a.2.2.2.2.2.2.1 (p.nat (p.ar .rem .i64 (p.ar .add .i64 a.2.2.2.2.2.2.2.2.2.2.2.2.2.2.2.2.2.2.2.2.2.1 (p.cvt .i64 a.2.2.2.2.2.2.2.2.2.2.2.2.2.2.2.2.1)) a.2.2.2.2.2.2.2.2.2.2.2.2.2.2.2.2.2.2.2.1)) [ci,ci,ci])<|
 opt.need _ (p.cmp .geq (p.ar .rem .i64 (p.ar .add .i64 a.2.2.2.2.2.2.2.2.2.2.2.2.2.2.2.2.2.2.2.2.2.1 (p.cvt .i64 a.2.2.2.2.2.2.2.2.2.2.2.2.2.2.2.2.1)) a.2.2.2.2.2.2.2.2.2.2.2.2.2.2.2.2.2.2.2.1) (0:Int))<|
 opt.need _ (p.and (p.leN (p.add 0 1) (p.len [[(D.int .i64 (p.rdI a.2.2.2.2.2.2.1 (p.nat (p.ar .rem .i64 (p.ar .add .i64 a.2.2.2.2.2.2.2.2.2.2.2.2.2.2.2.2.2.2.2.2.2.1 (p.cvt .i64 a.2.2.2.2.2.2.2.2.2.2.2.2.2.2.2.2.1)) a.2.2.2.2.2.2.2.2.2.2.2.2.2.2.2.2.2.2.2.1)) 0)),(D.int .i64 (p.rdI a.2.2.2.2.2.2.1 (p.nat (p.ar .rem .i64 (p.ar .add .i64 a.2.2.2.2.2.2.2.2.2.2.2.2.2.2.2.2.2.2.2.2.2.1 (p.cvt .i64 a.2.2.2.2.2.2.2.2.2.2.2.2.2.2.2.2.1)) a.2.2.2.2.2.2.2.2.2.2.2.2.2.2.2.2.2.2.2.1)) 1)),(D.int .i64 (p.rdI a.2.2.2.2.2.2.1 (p.nat (p.ar .rem .i64 (p.ar .add .i64 a.2.2.2.2.2.2.2.2.2.2.2.2.2.2.2.2.2.2.2.2.2.1 (p.cvt .i64 a.2.2.2.2.2.2.2.2.2.2.2.2.2.2.2.2.1)) a.2.2.2.2.2.2.2.2.2.2.2.2.2.2.2.2.2.2.2.1)) 2))]])) (p.and (p.leN (p.add 0 (p.len a.1)) (p.len a.1)) (p.and (p.leN 1 1) (p.leN (p.add (p.len a.1) 1) 1000000))))<|
 opt.need _ (p.cmp .neq a.2.2.2.2.1 (0:Int))<|
 opt.need _ (p.and (p.leN (p.add 0 1) (p.len [[(D.int .i64 (p.ar .rem .i64 (p.ar .add .i64 (p.rdI a.2.2.2.2.2.2.1 (p.nat (p.ar .rem .i64 (p.ar .add .i64 a.2.2.2.2.2.2.2.2.2.2.2.2.2.2.2.2.2.2.2.2.2.1 (p.cvt .i64 a.2.2.2.2.2.2.2.2.2.2.2.2.2.2.2.2.1)) a.2.2.2.2.2.2.2.2.2.2.2.2.2.2.2.2.2.2.2.1)) 0) (p.cvt .i64 a.2.2.2.2.2.2.2.2.2.2.2.2.2.2.2.2.2.1)) a.2.2.2.2.1)),(D.int .i64 (p.rdI a.2.2.2.2.2.2.1 (p.nat (p.ar .rem .i64 (p.ar .add .i64 a.2.2.2.2.2.2.2.2.2.2.2.2.2.2.2.2.2.2.2.2.2.1 (p.cvt .i64 a.2.2.2.2.2.2.2.2.2.2.2.2.2.2.2.2.1)) a.2.2.2.2.2.2.2.2.2.2.2.2.2.2.2.2.2.2.2.1)) 1)),(D.int .i64 (p.rdI a.2.2.2.2.2.2.1 (p.nat (p.ar .rem .i64 (p.ar .add .i64 a.2.2.2.2.2.2.2.2.2.2.2.2.2.2.2.2.2.2.2.2.2.1 (p.cvt .i64 a.2.2.2.2.2.2.2.2.2.2.2.2.2.2.2.2.1)) a.2.2.2.2.2.2.2.2.2.2.2.2.2.2.2.2.2.2.2.1)) 2))]])) (p.and (p.leN (p.add 0 (p.len a.2.1)) (p.len a.2.1)) (p.and (p.leN 1 1) (p.leN (p.add (p.len a.2.1) 1) 1000000))))<|
 opt.need _ (p.rowOk a.2.2.2.2.2.2.1 (p.nat a.2.2.2.2.2.2.2.2.2.2.2.2.2.2.2.2.2.2.2.2.2.1) [ci,ci,ci])<|
 opt.need _ (p.cmp .geq a.2.2.2.2.2.2.2.2.2.2.2.2.2.2.2.2.2.2.2.2.2.1 (0:Int))<|
 opt.need _ (p.rowOk a.2.2.2.2.2.2.2.2.2.2.2.2.2.2.2.2.2.2.2.2.1 (p.nat (p.rdI a.2.2.2.2.2.2.1 (p.nat a.2.2.2.2.2.2.2.2.2.2.2.2.2.2.2.2.2.2.2.2.2.1) 0)) [ci])<|
 opt.need _ (p.cmp .geq (p.rdI a.2.2.2.2.2.2.1 (p.nat a.2.2.2.2.2.2.2.2.2.2.2.2.2.2.2.2.2.2.2.2.2.1) 0) (0:Int))<|
 opt.bnd ((LD×(LD×(LD×T26)))) _ (
 opt.run ((LD×(LD×(LD×T26)))) (
 opt.ask _ (p.cmp .leq (p.rdI a.2.2.2.2.2.2.2.2.2.2.2.2.2.2.2.2.2.2.2.2.1 (p.nat (p.rdI a.2.2.2.2.2.2.1 (p.nat a.2.2.2.2.2.2.2.2.2.2.2.2.2.2.2.2.2.2.2.2.2.1) 0)) 0) a.2.2.2.2.2.1) (
 opt.need _ (p.rowOk a.2.2.2.2.2.2.1 (p.nat a.2.2.2.2.2.2.2.2.2.2.2.2.2.2.2.2.2.2.2.2.2.1) [ci,ci,ci])<|
 opt.need _ (p.cmp .geq a.2.2.2.2.2.2.2.2.2.2.2.2.2.2.2.2.2.2.2.2.2.1 (0:Int))<|
 opt.need _ (p.and (p.leN (p.add 0 1) (p.len [[(D.int .i64 (p.rdI a.2.2.2.2.2.2.1 (p.nat a.2.2.2.2.2.2.2.2.2.2.2.2.2.2.2.2.2.2.2.2.2.1) 0)),(D.int .i64 (p.rdI a.2.2.2.2.2.2.1 (p.nat a.2.2.2.2.2.2.2.2.2.2.2.2.2.2.2.2.2.2.2.2.2.1) 1)),(D.int .i64 (p.rdI a.2.2.2.2.2.2.1 (p.nat a.2.2.2.2.2.2.2.2.2.2.2.2.2.2.2.2.2.2.2.2.2.1) 2))]])) (p.and (p.leN (p.add 0 (p.len a.2.2.1)) (p.len a.2.2.1)) (p.and (p.leN 1 1) (p.leN (p.add (p.len a.2.2.1) 1) 1000000))))<|
 opt.need _ (p.eqN 0 0)<|
 opt.need _ (p.eqN (p.add (p.len a.1) 1) (p.len (p.app (p.cut a.1 0 (p.len a.1)) (p.cut [[(D.int .i64 (p.rdI a.2.2.2.2.2.2.1 (p.nat (p.ar .rem .i64 (p.ar .add .i64 a.2.2.2.2.2.2.2.2.2.2.2.2.2.2.2.2.2.2.2.2.2.1 (p.cvt .i64 a.2.2.2.2.2.2.2.2.2.2.2.2.2.2.2.2.1)) a.2.2.2.2.2.2.2.2.2.2.2.2.2.2.2.2.2.2.2.1)) 0)),(D.int .i64 (p.rdI a.2.2.2.2.2.2.1 (p.nat (p.ar .rem .i64 (p.ar .add .i64 a.2.2.2.2.2.2.2.2.2.2.2.2.2.2.2.2.2.2.2.2.2.1 (p.cvt .i64 a.2.2.2.2.2.2.2.2.2.2.2.2.2.2.2.2.1)) a.2.2.2.2.2.2.2.2.2.2.2.2.2.2.2.2.2.2.2.1)) 1)),(D.int .i64 (p.rdI a.2.2.2.2.2.2.1 (p.nat (p.ar .rem .i64 (p.ar .add .i64 a.2.2.2.2.2.2.2.2.2.2.2.2.2.2.2.2.2.2.2.2.2.1 (p.cvt .i64 a.2.2.2.2.2.2.2.2.2.2.2.2.2.2.2.2.1)) a.2.2.2.2.2.2.2.2.2.2.2.2.2.2.2.2.2.2.2.1)) 2))]] 0 1))))<|
 opt.need _ (p.eqN 0 0)<|
 opt.need _ (p.eqN (p.add (p.len a.2.1) 1) (p.len (p.app (p.cut a.2.1 0 (p.len a.2.1)) (p.cut [[(D.int .i64 (p.ar .rem .i64 (p.ar .add .i64 (p.rdI a.2.2.2.2.2.2.1 (p.nat (p.ar .rem .i64 (p.ar .add .i64 a.2.2.2.2.2.2.2.2.2.2.2.2.2.2.2.2.2.2.2.2.2.1 (p.cvt .i64 a.2.2.2.2.2.2.2.2.2.2.2.2.2.2.2.2.1)) a.2.2.2.2.2.2.2.2.2.2.2.2.2.2.2.2.2.2.2.1)) 0) (p.cvt .i64 a.2.2.2.2.2.2.2.2.2.2.2.2.2.2.2.2.2.1)) a.2.2.2.2.1)),(D.int .i64 (p.rdI a.2.2.2.2.2.2.1 (p.nat (p.ar .rem .i64 (p.ar .add .i64 a.2.2.2.2.2.2.2.2.2.2.2.2.2.2.2.2.2.2.2.2.2.1 (p.cvt .i64 a.2.2.2.2.2.2.2.2.2.2.2.2.2.2.2.2.1)) a.2.2.2.2.2.2.2.2.2.2.2.2.2.2.2.2.2.2.2.1)) 1)),(D.int .i64 (p.rdI a.2.2.2.2.2.2.1 (p.nat (p.ar .rem .i64 (p.ar .add .i64 a.2.2.2.2.2.2.2.2.2.2.2.2.2.2.2.2.2.2.2.2.2.1 (p.cvt .i64 a.2.2.2.2.2.2.2.2.2.2.2.2.2.2.2.2.1)) a.2.2.2.2.2.2.2.2.2.2.2.2.2.2.2.2.2.2.2.1)) 2))]] 0 1))))<|
 opt.need _ (p.eqN 0 0)<|
 opt.need _ (p.eqN (p.add (p.len a.2.2.1) 1) (p.len (p.app (p.cut a.2.2.1 0 (p.len a.2.2.1)) (p.cut [[(D.int .i64 (p.rdI a.2.2.2.2.2.2.1 (p.nat a.2.2.2.2.2.2.2.2.2.2.2.2.2.2.2.2.2.2.2.2.2.1) 0)),(D.int .i64 (p.rdI a.2.2.2.2.2.2.1 (p.nat a.2.2.2.2.2.2.2.2.2.2.2.2.2.2.2.2.2.2.2.2.2.1) 1)),(D.int .i64 (p.rdI a.2.2.2.2.2.2.1 (p.nat a.2.2.2.2.2.2.2.2.2.2.2.2.2.2.2.2.2.2.2.2.2.1) 2))]] 0 1))))<|
 opt.ret _ ((p.app (p.cut a.1 0 (p.len a.1)) (p.cut [[(D.int .i64 (p.rdI a.2.2.2.2.2.2.1 (p.nat (p.ar .rem .i64 (p.ar .add .i64 a.2.2.2.2.2.2.2.2.2.2.2.2.2.2.2.2.2.2.2.2.2.1 (p.cvt .i64 a.2.2.2.2.2.2.2.2.2.2.2.2.2.2.2.2.1)) a.2.2.2.2.2.2.2.2.2.2.2.2.2.2.2.2.2.2.2.1)) 0)),(D.int .i64 (p.rdI a.2.2.2.2.2.2.1 (p.nat (p.ar .rem .i64 (p.ar .add .i64 a.2.2.2.2.2.2.2.2.2.2.2.2.2.2.2.2.2.2.2.2.2.1 (p.cvt .i64 a.2.2.2.2.2.2.2.2.2.2.2.2.2.2.2.2.1)) a.2.2.2.2.2.2.2.2.2.2.2.2.2.2.2.2.2.2.2.1)) 1)),(D.int .i64 (p.rdI a.2.2.2.2.2.2.1 (p.nat (p.ar .rem .i64 (p.ar .add .i64 a.2.2.2.2.2.2.2.2.2.2.2.2.2.2.2.2.2.2.2.2.2.1 (p.cvt .i64 a.2.2.2.2.2.2.2.2.2.2.2.2.2.2.2.2.1)) a.2.2.2.2.2.2.2.2.2.2.2.2.2.2.2.2.2.2.2.1)) 2))]] 0 1)),((p.app (p.cut a.2.1 0 (p.len a.2.1)) (p.cut [[(D.int .i64 (p.ar .rem .i64 (p.ar .add .i64 (p.rdI a.2.2.2.2.2.2.1 (p.nat (p.ar .rem .i64 (p.ar .add .i64 a.2.2.2.2.2.2.2.2.2.2.2.2.2.2.2.2.2.2.2.2.2.1 (p.cvt .i64 a.2.2.2.2.2.2.2.2.2.2.2.2.2.2.2.2.1)) a.2.2.2.2.2.2.2.2.2.2.2.2.2.2.2.2.2.2.2.1)) 0) (p.cvt .i64 a.2.2.2.2.2.2.2.2.2.2.2.2.2.2.2.2.2.1)) a.2.2.2.2.1)),(D.int .i64 (p.rdI a.2.2.2.2.2.2.1 (p.nat (p.ar .rem .i64 (p.ar .add .i64 a.2.2.2.2.2.2.2.2.2.2.2.2.2.2.2.2.2.2.2.2.2.1 (p.cvt .i64 a.2.2.2.2.2.2.2.2.2.2.2.2.2.2.2.2.1)) a.2.2.2.2.2.2.2.2.2.2.2.2.2.2.2.2.2.2.2.1)) 1)),(D.int .i64 (p.rdI a.2.2.2.2.2.2.1 (p.nat (p.ar .rem .i64 (p.ar .add .i64 a.2.2.2.2.2.2.2.2.2.2.2.2.2.2.2.2.2.2.2.2.2.1 (p.cvt .i64 a.2.2.2.2.2.2.2.2.2.2.2.2.2.2.2.2.1)) a.2.2.2.2.2.2.2.2.2.2.2.2.2.2.2.2.2.2.2.1)) 2))]] 0 1)),((p.app (p.cut a.2.2.1 0 (p.len a.2.2.1)) (p.cut [[(D.int .i64 (p.rdI a.2.2.2.2.2.2.1 (p.nat a.2.2.2.2.2.2.2.2.2.2.2.2.2.2.2.2.2.2.2.2.2.1) 0)),(D.int .i64 (p.rdI a.2.2.2.2.2.2.1 (p.nat a.2.2.2.2.2.2.2.2.2.2.2.2.2.2.2.2.2.2.2.2.2.1) 1)),(D.int .i64 (p.rdI a.2.2.2.2.2.2.1 (p.nat a.2.2.2.2.2.2.2.2.2.2.2.2.2.2.2.2.2.2.2.2.2.1) 2))]] 0 1)),(a.2.2.2.1,(a.2.2.2.2.1,(a.2.2.2.2.2.1,(a.2.2.2.2.2.2.1,(a.2.2.2.2.2.2.2.1,(a.2.2.2.2.2.2.2.2.1,(a.2.2.2.2.2.2.2.2.2.1,(a.2.2.2.2.2.2.2.2.2.2.1,(a.2.2.2.2.2.2.2.2.2.2.2.1,(a.2.2.2.2.2.2.2.2.2.2.2.2.1,(a.2.2.2.2.2.2.2.2.2.2.2.2.2.1,(a.2.2.2.2.2.2.2.2.2.2.2.2.2.2.1,(a.2.2.2.2.2.2.2.2.2.2.2.2.2.2.2.1,(a.2.2.2.2.2.2.2.2.2.2.2.2.2.2.2.2.1,(a.2.2.2.2.2.2.2.2.2.2.2.2.2.2.2.2.2.1,(a.2.2.2.2.2.2.2.2.2.2.2.2.2.2.2.2.2.2.1,(a.2.2.2.2.2.2.2.2.2.2.2.2.2.2.2.2.2.2.2.1,(a.2.2.2.2.2.2.2.2.2.2.2.2.2.2.2.2.2.2.2.2.1,(a.2.2.2.2.2.2.2.2.2.2.2.2.2.2.2.2.2.2.2.2.2.1,()))))))))))))))))))))))) (
 opt.need _ (p.eqN 0 0)<|
 opt.need _ (p.eqN (p.add (p.len a.1) 1) (p.len (p.app (p.cut a.1 0 (p.len a.1)) (p.cut [[(D.int .i64 (p.rdI a.2.2.2.2.2.2.1 (p.nat (p.ar .rem .i64 (p.ar .add .i64 a.2.2.2.2.2.2.2.2.2.2.2.2.2.2.2.2.2.2.2.2.2.1 (p.cvt .i64 a.2.2.2.2.2.2.2.2.2.2.2.2.2.2.2.2.1)) a.2.2.2.2.2.2.2.2.2.2.2.2.2.2.2.2.2.2.2.1)) 0)),(D.int .i64 (p.rdI a.2.2.2.2.2.2.1 (p.nat (p.ar .rem .i64 (p.ar .add .i64 a.2.2.2.2.2.2.2.2.2.2.2.2.2.2.2.2.2.2.2.2.2.1 (p.cvt .i64 a.2.2.2.2.2.2.2.2.2.2.2.2.2.2.2.2.1)) a.2.2.2.2.2.2.2.2.2.2.2.2.2.2.2.2.2.2.2.1)) 1)),(D.int .i64 (p.rdI a.2.2.2.2.2.2.1 (p.nat (p.ar .rem .i64 (p.ar .add .i64 a.2.2.2.2.2.2.2.2.2.2.2.2.2.2.2.2.2.2.2.2.2.1 (p.cvt .i64 a.2.2.2.2.2.2.2.2.2.2.2.2.2.2.2.2.1)) a.2.2.2.2.2.2.2.2.2.2.2.2.2.2.2.2.2.2.2.1)) 2))]] 0 1))))<|
 opt.need _ (p.eqN 0 0)<|
 opt.need _ (p.eqN (p.add (p.len a.2.1) 1) (p.len (p.app (p.cut a.2.1 0 (p.len a.2.1)) (p.cut [[(D.int .i64 (p.ar .rem .i64 (p.ar .add .i64 (p.rdI a.2.2.2.2.2.2.1 (p.nat (p.ar .rem .i64 (p.ar .add .i64 a.2.2.2.2.2.2.2.2.2.2.2.2.2.2.2.2.2.2.2.2.2.1 (p.cvt .i64 a.2.2.2.2.2.2.2.2.2.2.2.2.2.2.2.2.1)) a.2.2.2.2.2.2.2.2.2.2.2.2.2.2.2.2.2.2.2.1)) 0) (p.cvt .i64 a.2.2.2.2.2.2.2.2.2.2.2.2.2.2.2.2.2.1)) a.2.2.2.2.1)),(D.int .i64 (p.rdI a.2.2.2.2.2.2.1 (p.nat (p.ar .rem .i64 (p.ar .add .i64 a.2.2.2.2.2.2.2.2.2.2.2.2.2.2.2.2.2.2.2.2.2.1 (p.cvt .i64 a.2.2.2.2.2.2.2.2.2.2.2.2.2.2.2.2.1)) a.2.2.2.2.2.2.2.2.2.2.2.2.2.2.2.2.2.2.2.1)) 1)),(D.int .i64 (p.rdI a.2.2.2.2.2.2.1 (p.nat (p.ar .rem .i64 (p.ar .add .i64 a.2.2.2.2.2.2.2.2.2.2.2.2.2.2.2.2.2.2.2.2.2.1 (p.cvt .i64 a.2.2.2.2.2.2.2.2.2.2.2.2.2.2.2.2.1)) a.2.2.2.2.2.2.2.2.2.2.2.2.2.2.2.2.2.2.2.1)) 2))]] 0 1))))<|
 opt.need _ (p.eqN 0 0)<|
 opt.need _ (p.eqN (p.len a.2.2.1) (p.len a.2.2.1))<|
 opt.ret _ ((p.app (p.cut a.1 0 (p.len a.1)) (p.cut [[(D.int .i64 (p.rdI a.2.2.2.2.2.2.1 (p.nat (p.ar .rem .i64 (p.ar .add .i64 a.2.2.2.2.2.2.2.2.2.2.2.2.2.2.2.2.2.2.2.2.2.1 (p.cvt .i64 a.2.2.2.2.2.2.2.2.2.2.2.2.2.2.2.2.1)) a.2.2.2.2.2.2.2.2.2.2.2.2.2.2.2.2.2.2.2.1)) 0)),(D.int .i64 (p.rdI a.2.2.2.2.2.2.1 (p.nat (p.ar .rem .i64 (p.ar .add .i64 a.2.2.2.2.2.2.2.2.2.2.2.2.2.2.2.2.2.2.2.2.2.1 (p.cvt .i64 a.2.2.2.2.2.2.2.2.2.2.2.2.2.2.2.2.1)) a.2.2.2.2.2.2.2.2.2.2.2.2.2.2.2.2.2.2.2.1)) 1)),(D.int .i64 (p.rdI a.2.2.2.2.2.2.1 (p.nat (p.ar .rem .i64 (p.ar .add .i64 a.2.2.2.2.2.2.2.2.2.2.2.2.2.2.2.2.2.2.2.2.2.1 (p.cvt .i64 a.2.2.2.2.2.2.2.2.2.2.2.2.2.2.2.2.1)) a.2.2.2.2.2.2.2.2.2.2.2.2.2.2.2.2.2.2.2.1)) 2))]] 0 1)),((p.app (p.cut a.2.1 0 (p.len a.2.1)) (p.cut [[(D.int .i64 (p.ar .rem .i64 (p.ar .add .i64 (p.rdI a.2.2.2.2.2.2.1 (p.nat (p.ar .rem .i64 (p.ar .add .i64 a.2.2.2.2.2.2.2.2.2.2.2.2.2.2.2.2.2.2.2.2.2.1 (p.cvt .i64 a.2.2.2.2.2.2.2.2.2.2.2.2.2.2.2.2.1)) a.2.2.2.2.2.2.2.2.2.2.2.2.2.2.2.2.2.2.2.1)) 0) (p.cvt .i64 a.2.2.2.2.2.2.2.2.2.2.2.2.2.2.2.2.2.1)) a.2.2.2.2.1)),(D.int .i64 (p.rdI a.2.2.2.2.2.2.1 (p.nat (p.ar .rem .i64 (p.ar .add .i64 a.2.2.2.2.2.2.2.2.2.2.2.2.2.2.2.2.2.2.2.2.2.1 (p.cvt .i64 a.2.2.2.2.2.2.2.2.2.2.2.2.2.2.2.2.1)) a.2.2.2.2.2.2.2.2.2.2.2.2.2.2.2.2.2.2.2.1)) 1)),(D.int .i64 (p.rdI a.2.2.2.2.2.2.1 (p.nat (p.ar .rem .i64 (p.ar .add .i64 a.2.2.2.2.2.2.2.2.2.2.2.2.2.2.2.2.2.2.2.2.2.1 (p.cvt .i64 a.2.2.2.2.2.2.2.2.2.2.2.2.2.2.2.2.1)) a.2.2.2.2.2.2.2.2.2.2.2.2.2.2.2.2.2.2.2.1)) 2))]] 0 1)),(a.2.2.1,(a.2.2.2.1,(a.2.2.2.2.1,(a.2.2.2.2.2.1,(a.2.2.2.2.2.2.1,(a.2.2.2.2.2.2.2.1,(a.2.2.2.2.2.2.2.2.1,(a.2.2.2.2.2.2.2.2.2.1,(a.2.2.2.2.2.2.2.2.2.2.1,(a.2.2.2.2.2.2.2.2.2.2.2.1,(a.2.2.2.2.2.2.2.2.2.2.2.2.1,(a.2.2.2.2.2.2.2.2.2.2.2.2.2.1,(a.2.2.2.2.2.2.2.2.2.2.2.2.2.2.1,(a.2.2.2.2.2.2.2.2.2.2.2.2.2.2.2.1,(a.2.2.2.2.2.2.2.2.2.2.2.2.2.2.2.2.1,(a.2.2.2.2.2.2.2.2.2.2.2.2.2.2.2.2.2.1,(a.2.2.2.2.2.2.2.2.2.2.2.2.2.2.2.2.2.2.1,(a.2.2.2.2.2.2.2.2.2.2.2.2.2.2.2.2.2.2.2.1,(a.2.2.2.2.2.2.2.2.2.2.2.2.2.2.2.2.2.2.2.2.1,(a.2.2.2.2.2.2.2.2.2.2.2.2.2.2.2.2.2.2.2.2.2.1,()))))))))))))))))))))))))) fun b=>
 opt.need _ (p.eqN 0 0)<|
 opt.need _ (p.eqN (p.len b.1) (p.len b.1))<|
 opt.need _ (p.eqN 0 0)<|
 opt.need _ (p.eqN (p.len b.2.1) (p.len b.2.1))<|
 opt.need _ (p.eqN 0 0)<|
 opt.need _ (p.eqN (p.len b.2.2.1) (p.len b.2.2.1))<|
 opt.ret _ (Sum.inl (b.1,(b.2.1,(b.2.2.1,(b.2.2.2.1,(b.2.2.2.2.1,(b.2.2.2.2.2.1,(b.2.2.2.2.2.2.1,(b.2.2.2.2.2.2.2.1,(b.2.2.2.2.2.2.2.2.1,(b.2.2.2.2.2.2.2.2.2.1,(b.2.2.2.2.2.2.2.2.2.2.1,(b.2.2.2.2.2.2.2.2.2.2.2.1,(b.2.2.2.2.2.2.2.2.2.2.2.2.1,(b.2.2.2.2.2.2.2.2.2.2.2.2.2.1,(b.2.2.2.2.2.2.2.2.2.2.2.2.2.2.1,(b.2.2.2.2.2.2.2.2.2.2.2.2.2.2.2.1,(b.2.2.2.2.2.2.2.2.2.2.2.2.2.2.2.2.1,(b.2.2.2.2.2.2.2.2.2.2.2.2.2.2.2.2.2.1,(b.2.2.2.2.2.2.2.2.2.2.2.2.2.2.2.2.2.2.1,(b.2.2.2.2.2.2.2.2.2.2.2.2.2.2.2.2.2.2.2.1,(b.2.2.2.2.2.2.2.2.2.2.2.2.2.2.2.2.2.2.2.2.1,((p.ar .add .i64 b.2.2.2.2.2.2.2.2.2.2.2.2.2.2.2.2.2.2.2.2.2.1 (1:Int)),())))))))))))))))))))))))) (
 opt.need _ (p.eqN 0 0)<|
 opt.need _ (p.eqN (p.len a.1) (p.len a.1))<|
 opt.need _ (p.eqN 0 0)<|
 opt.need _ (p.eqN (p.len a.2.1) (p.len a.2.1))<|
 opt.need _ (p.eqN 0 0)<|
 opt.need _ (p.eqN (p.len a.2.2.1) (p.len a.2.2.1))<|
 opt.ret _ (Sum.inr (a.1,(a.2.1,(a.2.2.1,(a.2.2.2.1,(a.2.2.2.2.1,(a.2.2.2.2.2.1,(a.2.2.2.2.2.2.1,(a.2.2.2.2.2.2.2.1,(a.2.2.2.2.2.2.2.2.1,(a.2.2.2.2.2.2.2.2.2.1,(a.2.2.2.2.2.2.2.2.2.2.1,(a.2.2.2.2.2.2.2.2.2.2.2.1,(a.2.2.2.2.2.2.2.2.2.2.2.2.1,(a.2.2.2.2.2.2.2.2.2.2.2.2.2.1,(a.2.2.2.2.2.2.2.2.2.2.2.2.2.2.1,(a.2.2.2.2.2.2.2.2.2.2.2.2.2.2.2.1,(a.2.2.2.2.2.2.2.2.2.2.2.2.2.2.2.2.2.2.1,(a.2.2.2.2.2.2.2.2.2.2.2.2.2.2.2.2.2.2.2.1,(a.2.2.2.2.2.2.2.2.2.2.2.2.2.2.2.2.2.2.2.2.1,()))))))))))))))))))))))
def G9:(p:Prim)→(Int×(Int×(Int×(LD×(Int×(Int×(Int×Unit)))))))→Option T0:=
 fun p x=>
 opt.bnd T43 _ (
 opt.run T43 (
 opt.ask _ (p.cmp .gtr (p.ofNat (p.len x.2.2.2.1)) (90:Int)) (
 opt.ret _ (x.1,(x.2.1,(x.2.2.1,(x.2.2.2.1,(x.2.2.2.2.1,(x.2.2.2.2.2.1,(x.2.2.2.2.2.2.1,(Bool.true,()))))))))) (
 opt.bnd T2 _ (G20 p (x.1,(x.2.1,(x.2.2.1,(x.2.2.2.1,()))))) fun a=>
 opt.ret _ (x.1,(x.2.1,(x.2.2.1,(x.2.2.2.1,(x.2.2.2.2.1,(x.2.2.2.2.2.1,(x.2.2.2.2.2.2.1,((p.cmp .neq a.1 (0:Int)),()))))))))))) fun b=>
 opt.ask _ b.2.2.2.2.2.2.2.1 (
 opt.bnd T0 _ (G14 p ()) fun c=>
 opt.ret _ (c.1,())) (
 opt.bnd ((LD×T1)) _ (v3n p (b.1,(b.2.1,(b.2.2.1,(b.2.2.2.1,()))))) fun d=>
 opt.bnd T44 _ (
 opt.run T44 (
 opt.ask _ (p.cmp .neq d.2.1 (0:Int)) (
 opt.ret _ (b.1,(b.2.1,(b.2.2.1,(b.2.2.2.1,(b.1,(b.2.1,(b.2.2.1,(b.1,(b.2.1,(b.2.2.1,(b.1,(b.2.1,(b.2.2.1,(b.2.2.2.2.1,(b.2.2.2.2.2.1,(b.2.2.2.2.2.2.1,((p.ofNat (p.len b.2.2.2.1)),(d.1,(Bool.true,())))))))))))))))))))) (
 opt.ret _ (b.1,(b.2.1,(b.2.2.1,(b.2.2.2.1,(b.1,(b.2.1,(b.2.2.1,(b.1,(b.2.1,(b.2.2.1,(b.1,(b.2.1,(b.2.2.1,(b.2.2.2.2.1,(b.2.2.2.2.2.1,(b.2.2.2.2.2.2.1,((p.ofNat (p.len b.2.2.2.1)),(d.1,((p.cmp .neq (p.ofNat (p.len d.1)) b.2.1),())))))))))))))))))))))) fun e=>
 opt.ask _ e.2.2.2.2.2.2.2.2.2.2.2.2.2.2.2.2.2.2.1 (
 opt.ret _ (Bool.false,())) (
 opt.bnd ((LD×(LD×(LD×T42)))) _ (
 y0g (w4n p) ([],([],([],(e.1,(e.2.1,(e.2.2.1,(e.2.2.2.1,(e.2.2.2.2.1,(e.2.2.2.2.2.1,(e.2.2.2.2.2.2.1,(e.2.2.2.2.2.2.2.1,(e.2.2.2.2.2.2.2.2.1,(e.2.2.2.2.2.2.2.2.2.1,(e.2.2.2.2.2.2.2.2.2.2.1,(e.2.2.2.2.2.2.2.2.2.2.2.1,(e.2.2.2.2.2.2.2.2.2.2.2.2.1,(e.2.2.2.2.2.2.2.2.2.2.2.2.2.1,(e.2.2.2.2.2.2.2.2.2.2.2.2.2.2.1,(e.2.2.2.2.2.2.2.2.2.2.2.2.2.2.2.1,(e.2.2.2.2.2.2.2.2.2.2.2.2.2.2.2.2.1,(e.2.2.2.2.2.2.2.2.2.2.2.2.2.2.2.2.2.1,((0:Int),()))))))))))))))))))))))) fun f=>
 opt.bnd ((LD×(LD×(LD×T45)))) _ (
 opt.run ((LD×(LD×(LD×T45)))) (
 opt.ask _ (p.cmp .gtr f.2.2.2.2.2.2.2.2.2.2.2.2.2.2.2.2.2.1 (0:Int)) (
 opt.need _ (p.eqN 0 0)<|
 opt.need _ (p.eqN (p.len f.1) (p.len f.1))<|
 opt.need _ (p.eqN 0 0)<|
 opt.need _ (p.eqN (p.len f.2.1) (p.len f.2.1))<|
 opt.need _ (p.eqN 0 0)<|
 opt.need _ (p.eqN (p.len f.2.2.1) (p.len f.2.2.1))<|
 opt.ret _ (f.1,(f.2.1,(f.2.2.1,(f.2.2.2.1,(f.2.2.2.2.1,(f.2.2.2.2.2.1,(f.2.2.2.2.2.2.1,(f.2.2.2.2.2.2.2.1,(f.2.2.2.2.2.2.2.2.1,(f.2.2.2.2.2.2.2.2.2.1,(f.2.2.2.2.2.2.2.2.2.2.1,(f.2.2.2.2.2.2.2.2.2.2.2.1,(f.2.2.2.2.2.2.2.2.2.2.2.2.1,(f.2.2.2.2.2.2.2.2.2.2.2.2.2.1,(f.2.2.2.2.2.2.2.2.2.2.2.2.2.2.1,(f.2.2.2.2.2.2.2.2.2.2.2.2.2.2.2.1,(f.2.2.2.2.2.2.2.2.2.2.2.2.2.2.2.2.1,(f.2.2.2.2.2.2.2.2.2.2.2.2.2.2.2.2.2.1,(f.2.2.2.2.2.2.2.2.2.2.2.2.2.2.2.2.2.2.1,((p.cmp .lss f.2.2.2.2.2.2.2.2.2.2.2.2.2.2.2.2.2.1 (80:Int)),()))))))))))))))))))))) (
 opt.need _ (p.eqN 0 0)<|
 opt.need _ (p.eqN (p.len f.1) (p.len f.1))<|
 opt.need _ (p.eqN 0 0)<|
 opt.need _ (p.eqN (p.len f.2.1) (p.len f.2.1))<|
 opt.need _ (p.eqN 0 0)<|
 opt.need _ (p.eqN (p.len f.2.2.1) (p.len f.2.2.1))<|
 opt.ret _ (f.1,(f.2.1,(f.2.2.1,(f.2.2.2.1,(f.2.2.2.2.1,(f.2.2.2.2.2.1,(f.2.2.2.2.2.2.1,(f.2.2.2.2.2.2.2.1,(f.2.2.2.2.2.2.2.2.1,(f.2.2.2.2.2.2.2.2.2.1,(f.2.2.2.2.2.2.2.2.2.2.1,(f.2.2.2.2.2.2.2.2.2.2.2.1,(f.2.2.2.2.2.2.2.2.2.2.2.2.1,(f.2.2.2.2.2.2.2.2.2.2.2.2.2.1,(f.2.2.2.2.2.2.2.2.2.2.2.2.2.2.1,(f.2.2.2.2.2.2.2.2.2.2.2.2.2.2.2.1,(f.2.2.2.2.2.2.2.2.2.2.2.2.2.2.2.2.1,(f.2.2.2.2.2.2.2.2.2.2.2.2.2.2.2.2.2.1,(f.2.2.2.2.2.2.2.2.2.2.2.2.2.2.2.2.2.2.1,(Bool.false,()))))))))))))))))))))))) fun g=>
 opt.bnd ((LD×(LD×(LD×T46)))) _ (
 opt.run ((LD×(LD×(LD×T46)))) (
 opt.ask _ g.2.2.2.2.2.2.2.2.2.2.2.2.2.2.2.2.2.2.2.1 (
 opt.need _ (p.cmp .neq g.2.2.2.2.2.2.2.2.2.2.2.2.2.2.2.2.2.1 (0:Int))<|
 opt.need _ (p.rowOk g.2.2.2.2.2.2.1 (p.nat (p.ar .rem .i64 (p.cvt .i64 g.2.2.2.2.2.2.2.2.2.2.2.2.2.2.2.2.1) g.2.2.2.2.2.2.2.2.2.2.2.2.2.2.2.2.2.1)) [ci,ci,ci])<|
 opt.need _ (p.cmp .geq (p.ar .rem .i64 (p.cvt .i64 g.2.2.2.2.2.2.2.2.2.2.2.2.2.2.2.2.1) g.2.2.2.2.2.2.2.2.2.2.2.2.2.2.2.2.2.1) (0:Int))<|
 opt.need _ (p.and (p.leN (p.add 0 1) (p.len [[(D.int .i64 (p.rdI g.2.2.2.2.2.2.1 (p.nat (p.ar .rem .i64 (p.cvt .i64 g.2.2.2.2.2.2.2.2.2.2.2.2.2.2.2.2.1) g.2.2.2.2.2.2.2.2.2.2.2.2.2.2.2.2.2.1)) 0)),(D.int .i64 (p.rdI g.2.2.2.2.2.2.1 (p.nat (p.ar .rem .i64 (p.cvt .i64 g.2.2.2.2.2.2.2.2.2.2.2.2.2.2.2.2.1) g.2.2.2.2.2.2.2.2.2.2.2.2.2.2.2.2.2.1)) 1)),(D.int .i64 (p.rdI g.2.2.2.2.2.2.1 (p.nat (p.ar .rem .i64 (p.cvt .i64 g.2.2.2.2.2.2.2.2.2.2.2.2.2.2.2.2.1) g.2.2.2.2.2.2.2.2.2.2.2.2.2.2.2.2.2.1)) 2))]])) (p.and (p.leN (p.add 0 (p.len g.1)) (p.len g.1)) (p.and (p.leN 1 1) (p.leN (p.add (p.len g.1) 1) 1000000))))<|
 opt.need _ (p.eqN 0 0)<|
 opt.need _ (p.eqN (p.add (p.len g.1) 1) (p.len (p.app (p.cut g.1 0 (p.len g.1)) (p.cut [[(D.int .i64 (p.rdI g.2.2.2.2.2.2.1 (p.nat (p.ar .rem .i64 (p.cvt .i64 g.2.2.2.2.2.2.2.2.2.2.2.2.2.2.2.2.1) g.2.2.2.2.2.2.2.2.2.2.2.2.2.2.2.2.2.1)) 0)),(D.int .i64 (p.rdI g.2.2.2.2.2.2.1 (p.nat (p.ar .rem .i64 (p.cvt .i64 g.2.2.2.2.2.2.2.2.2.2.2.2.2.2.2.2.1) g.2.2.2.2.2.2.2.2.2.2.2.2.2.2.2.2.2.1)) 1)),(D.int .i64 (p.rdI g.2.2.2.2.2.2.1 (p.nat (p.ar .rem .i64 (p.cvt .i64 g.2.2.2.2.2.2.2.2.2.2.2.2.2.2.2.2.1) g.2.2.2.2.2.2.2.2.2.2.2.2.2.2.2.2.2.1)) 2))]] 0 1))))<|
 opt.need _ (p.eqN 0 0)<|
 opt.need _ (p.eqN (p.len g.2.1) (p.len g.2.1))<|
 opt.need _ (p.eqN 0 0)<|
 opt.need _ (p.eqN (p.len g.2.2.1) (p.len g.2.2.1))<|
 opt.ret _ ((p.app (p.cut g.1 0 (p.len g.1)) (p.cut [[(D.int .i64 (p.rdI g.2.2.2.2.2.2.1 (p.nat (p.ar .rem .i64 (p.cvt .i64 g.2.2.2.2.2.2.2.2.2.2.2.2.2.2.2.2.1) g.2.2.2.2.2.2.2.2.2.2.2.2.2.2.2.2.2.1)) 0)),(D.int .i64 (p.rdI g.2.2.2.2.2.2.1 (p.nat (p.ar .rem .i64 (p.cvt .i64 g.2.2.2.2.2.2.2.2.2.2.2.2.2.2.2.2.1) g.2.2.2.2.2.2.2.2.2.2.2.2.2.2.2.2.2.1)) 1)),(D.int .i64 (p.rdI g.2.2.2.2.2.2.1 (p.nat (p.ar .rem .i64 (p.cvt .i64 g.2.2.2.2.2.2.2.2.2.2.2.2.2.2.2.2.1) g.2.2.2.2.2.2.2.2.2.2.2.2.2.2.2.2.2.1)) 2))]] 0 1)),(g.2.1,(g.2.2.1,(g.2.2.2.1,(g.2.2.2.2.1,(g.2.2.2.2.2.1,(g.2.2.2.2.2.2.1,(g.2.2.2.2.2.2.2.1,(g.2.2.2.2.2.2.2.2.1,(g.2.2.2.2.2.2.2.2.2.1,(g.2.2.2.2.2.2.2.2.2.2.1,(g.2.2.2.2.2.2.2.2.2.2.2.1,(g.2.2.2.2.2.2.2.2.2.2.2.2.1,(g.2.2.2.2.2.2.2.2.2.2.2.2.2.1,(g.2.2.2.2.2.2.2.2.2.2.2.2.2.2.1,(g.2.2.2.2.2.2.2.2.2.2.2.2.2.2.2.1,(g.2.2.2.2.2.2.2.2.2.2.2.2.2.2.2.2.2.2.1,())))))))))))))))))) (
 opt.need _ (p.eqN 0 0)<|
 opt.need _ (p.eqN (p.len g.1) (p.len g.1))<|
 opt.need _ (p.eqN 0 0)<|
 opt.need _ (p.eqN (p.len g.2.1) (p.len g.2.1))<|
 opt.need _ (p.eqN 0 0)<|
 opt.need _ (p.eqN (p.len g.2.2.1) (p.len g.2.2.1))<|
 opt.ret _ (g.1,(g.2.1,(g.2.2.1,(g.2.2.2.1,(g.2.2.2.2.1,(g.2.2.2.2.2.1,(g.2.2.2.2.2.2.1,(g.2.2.2.2.2.2.2.1,(g.2.2.2.2.2.2.2.2.1,(g.2.2.2.2.2.2.2.2.2.1,(g.2.2.2.2.2.2.2.2.2.2.1,(g.2.2.2.2.2.2.2.2.2.2.2.1,(g.2.2.2.2.2.2.2.2.2.2.2.2.1,(g.2.2.2.2.2.2.2.2.2.2.2.2.2.1,(g.2.2.2.2.2.2.2.2.2.2.2.2.2.2.1,(g.2.2.2.2.2.2.2.2.2.2.2.2.2.2.2.1,(g.2.2.2.2.2.2.2.2.2.2.2.2.2.2.2.2.2.2.1,())))))))))))))))))))) fun h=>
 opt.need _ (p.leN (p.add 0 (p.len h.1)) (p.len h.1))<|
 opt.need _ (p.leN (p.add 0 (p.len h.2.1)) (p.len h.2.1))<|
 opt.need _ (p.leN (p.add 0 (p.len h.2.2.1)) (p.len h.2.2.1))<|
 opt.bnd ((LD×T1)) _ (w3l p (h.2.2.2.1,(h.2.2.2.2.1,(h.2.2.2.2.2.1,(h.2.2.2.2.2.2.1,()))))) fun i=>
 opt.bnd ((LD×T1)) _ (w3l p (h.2.2.2.2.2.2.2.1,(h.2.2.2.2.2.2.2.2.1,(h.2.2.2.2.2.2.2.2.2.1,((p.cut h.1 0 (p.len h.1)),()))))) fun j=>
 opt.bnd ((LD×T1)) _ (w3l p (h.2.2.2.2.2.2.2.2.2.2.1,(h.2.2.2.2.2.2.2.2.2.2.2.1,(h.2.2.2.2.2.2.2.2.2.2.2.2.1,((p.cut h.2.1 0 (p.len h.2.1)),()))))) fun k=>
 opt.bnd ((LD×T1)) _ (w3l p (h.2.2.2.2.2.2.2.2.2.2.2.2.2.1,(h.2.2.2.2.2.2.2.2.2.2.2.2.2.2.1,(h.2.2.2.2.2.2.2.2.2.2.2.2.2.2.2.1,((p.cut h.2.2.1 0 (p.len h.2.2.1)),()))))) fun l=>
 opt.bnd ((LD×T1)) _ (v3n p (h.2.2.2.2.2.2.2.1,(h.2.2.2.2.2.2.2.2.1,(h.2.2.2.2.2.2.2.2.2.1,((p.cut h.1 0 (p.len h.1)),()))))) fun m=>
 opt.bnd T0 _ (
 opt.run T0 (
 opt.ask _ (p.cmp .eql i.2.1 (0:Int)) (
 opt.ask _ (p.cmp .eql j.2.1 (0:Int)) (
 opt.ask _ (p.cmp .eql k.2.1 (0:Int)) (
 opt.ask _ (p.cmp .eql l.2.1 (0:Int)) (
 opt.ask _ (p.cmp .eql m.2.1 (0:Int)) (
 opt.bnd T2 _ (G27 p (i.1,())) fun n=>
 opt.ask _ (p.cmp .eql n.1 (0:Int)) (
 opt.bnd T0 _ (G22 p (i.1,(j.1,()))) fun o=>
 opt.ask _ o.1 (
 opt.bnd T0 _ (G22 p (i.1,(k.1,()))) fun q=>
 opt.ask _ q.1 (
 opt.bnd T0 _ (G22 p (i.1,(l.1,()))) fun r=>
 opt.ask _ r.1 (
 opt.bnd T0 _ (G21 p (h.2.2.2.2.2.2.2.2.2.2.2.2.2.2.2.2.1,(m.1,()))) fun t=>
 opt.ask _ t.1 (
 opt.bnd T0 _ (G14 p ()) fun u=>
 opt.ret _ (u.1,())) (
 opt.ret _ (Bool.false,()))) (
 opt.ret _ (Bool.false,()))) (
 opt.ret _ (Bool.false,()))) (
 opt.ret _ (Bool.false,()))) (
 opt.ret _ (Bool.false,()))) (
 opt.ret _ (Bool.false,()))) (
 opt.ret _ (Bool.false,()))) (
 opt.ret _ (Bool.false,()))) (
 opt.ret _ (Bool.false,()))) (
 opt.ret _ (Bool.false,())))) fun v=>
 opt.ret _ (v.1,())))
theorem ok9:CtrOk PG ctr9 (G9 std):=okF (a:=an9) (l:=la9) (gC v5a (gC v97 (gC v49 (gC v5b (gC v5c (gC ok14 (gC ok20 (gN)))))))) (by kernel_rfl) fun _ _=>by kernel_rfl
end Go.Am
end
