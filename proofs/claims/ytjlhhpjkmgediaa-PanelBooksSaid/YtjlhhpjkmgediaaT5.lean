/- Texts of this claim. -/
import Derived.Test.YtjlhhpjkmgediaaT4
import Derived.Shelf.Spec.SlicesInsertGrow
import Derived.Test.YtjlhhpjkmgediaaProg
import Derived.KernelRfl
set_option linter.unusedVariables false
set_option linter.unusedSimpArgs false
set_option linter.unusedSectionVars false
set_option maxRecDepth 100000
set_option maxHeartbeats 0
section
namespace Go.Am
def z8o (n:Nat) (id:Nat):Bool:=Nat.blt id 2||(Nat.blt id (2+4*n)&&(Nat.beq (id % 4) 2||(Nat.beq (id % 4) 3||Nat.beq id (4*n+1))))
def w8c (N J S:Int) (V:List (List D)) (n:Nat) (f:Nat→JM×JM) (id:Nat):AO:=
 bif Nat.beq id 0 then .box (bkC N J S V) else bif Nat.beq id 1 then .box (bkC N J S V++[slJ n]) else
 bif Nat.beq (id % 4) 2 then .map (EJ.enc (f (id / 4)).1) else bif Nat.beq (id % 4) 3 then .map (EJ.enc (f (id / 4)).2) else
 bif Nat.beq id (4*n+1) then .arow (z5y n) else .dead
def x46 (N J S:Int) (V:List (List D)) (n:Nat) (f:Nat→JM×JM):List AO:=(List.range (2+4*n)).map (w8c N J S V n f)
theorem x2q:∀ (h:List AO) (i:Nat),z0e h i=(h[i]?).getD .dead
 |[],_=>by simp [z0e]
 |_::_,0=>rfl
 |_::r,i+1=>by simpa [z0e] using x2q r i
theorem y70 {N J S:Int} {V:List (List D)} {n:Nat} {f:Nat→JM×JM}:(x46 N J S V n f).length=2+4*n:=by simp [x46]
theorem z9f {N J S:Int} {V:List (List D)} {n:Nat} {f:Nat→JM×JM} (id:Nat):z0e (x46 N J S V n f) id=if id<2+4*n then w8c N J S V n f id else .dead:=by
 rw [x2q,x46,List.getElem?_map]
 by_cases h:id<2+4*n
 ·rw [if_pos h,List.getElem?_range h]; rfl
 ·rw [if_neg h,List.getElem?_eq_none (by simp; omega)]; rfl
theorem y76 (a:Nat):Nat.beq a a=true:=Nat.beq_refl a
theorem w2g {N J S:Int} {V:List (List D)} {n:Nat} {f:Nat→JM×JM}:x10 (x46 N J S V n f) N J S V n f:=by
 refine ⟨by rw [y70]; exact Nat.le_refl _,?_,?_,fun hn=>?_,fun i hi=>?_,fun i hi=>?_⟩
 ·rw [z9f,if_pos (by omega)]; rfl
 ·rw [z9f,if_pos (by omega)]; rfl
 ·rw [z9f,if_pos (by omega)]
  unfold w8c
  rw [z57 (show 4*n+1≠0 by omega),z57 (show 4*n+1≠1 by omega),z57 (show (4*n+1) % 4≠2 by omega),z57 (show (4*n+1) % 4≠3 by omega),y76]; rfl
 ·rw [z9f,if_pos (by omega)]
  unfold w8c
  rw [z57 (show 2+4*i≠0 by omega),z57 (show 2+4*i≠1 by omega),show (2+4*i) % 4=2 by omega,show (2+4*i) / 4=i by omega]; rfl
 ·rw [z9f,if_pos (by omega)]
  unfold w8c
  rw [z57 (show 3+4*i≠0 by omega),z57 (show 3+4*i≠1 by omega),show (3+4*i) % 4=3 by omega,show (3+4*i) / 4=i by omega]; rfl
theorem x9u (h:List AO) (n:Nat):z33 h (z8o n) (slJ n)=slJ n:=by
 unfold slJ
 by_cases hn:n=0
 ·rw [if_pos hn]; rfl
 ·rw [if_neg hn]
  simp only [z33]
  have:z8o n (4*n+1)=true:=by
   unfold z8o
   have h1:Nat.blt (4*n+1) (2+4*n)=true:=Nat.ble_eq_true_of_le (by omega)
   rw [h1,y76]; simp
  rw [this]; rfl
theorem x3z (h:List AO) (n:Nat):y8j h (z8o n) (z5y n)=z5y n:=by
 rw [y27,z5y,List.map_map]
 refine List.map_congr_left fun i hi=>?_
 have hi:=List.mem_range.1 hi
 have k1:z8o n (2+4*i)=true:=by
  unfold z8o
  have h1:Nat.blt (2+4*i) (2+4*n)=true:=Nat.ble_eq_true_of_le (by omega)
  rw [h1,show (2+4*i) % 4=2 by omega]; simp
 have k2:z8o n (3+4*i)=true:=by
  unfold z8o
  have h1:Nat.blt (3+4*i) (2+4*n)=true:=Nat.ble_eq_true_of_le (by omega)
  rw [h1,show (3+4*i) % 4=3 by omega]; simp
 show y0j h (z8o n) [.map (2+4*i), .map (3+4*i)]=_
 simp only [y0j,z33,k1,k2,cond_true]
theorem x4w {N J S:Int} {V:List (List D)} {n:Nat} {f:Nat→JM×JM} {h:List AO} (hf:x10 h N J S V n f):x5k (z8o n) h (x46 N J S V n f) where
 nth:=fun id=>by
  have hlen:=hf.len
  rw [z3y,Nat.zero_add,z9f]
  by_cases h0:id=0
  ·subst h0
   rw [if_pos (by omega),hf.b0]; rfl
  by_cases h1:id=1
  ·subst h1
   rw [if_pos (by omega),hf.b1]
   show AO.box (bkC N J S V++[slJ n])=AO.box (y0j h (z8o n) (bkC N J S V++[slJ n]))
   have:y0j h (z8o n) (bkC N J S V++[slJ n])=bkC N J S V++[z33 h (z8o n) (slJ n)]:=rfl
   rw [this,x9u]
  have e0:Nat.blt id 2=false:=by
   cases hb:Nat.blt id 2 with
   |false=>rfl
   |true=>have:id<2:=Nat.le_of_ble_eq_true hb; omega
  unfold w8c z8o
  rw [z57 h0,z57 h1,e0,Bool.false_or,cond_false,cond_false]
  by_cases hlt:id<2+4*n
  ·have e1:Nat.blt id (2+4*n)=true:=Nat.ble_eq_true_of_le hlt
   rw [if_pos hlt,e1,Bool.true_and]
   by_cases hm2:id % 4=2
   ·rw [hm2]
    have:=hf.said (id / 4) (by omega)
    rw [show 2+4*(id / 4)=id by omega] at this
    show AO.map (EJ.enc (f (id / 4)).1)=x30 h _ (z0e h id)
    rw [this]; rfl
   by_cases hm3:id % 4=3
   ·rw [hm3]
    have:=hf.slip (id / 4) (by omega)
    rw [show 3+4*(id / 4)=id by omega] at this
    show AO.map (EJ.enc (f (id / 4)).2)=x30 h _ (z0e h id)
    rw [this]; rfl
   rw [z57 hm2,z57 hm3,Bool.false_or,Bool.false_or,cond_false,cond_false]
   by_cases hl:id=4*n+1
   ·subst hl
    rw [y76,cond_true,if_pos rfl,hf.arr (by omega)]
    have:=x3z h n
    unfold z8o at this
    show AO.arow (z5y n)=AO.arow _
    rw [this]
   ·rw [z57 hl,cond_false,if_neg (by simp)]
  ·have e1:Nat.blt id (2+4*n)=false:=by
    cases hb:Nat.blt id (2+4*n) with
    |false=>rfl
    |true=>exact absurd (Nat.le_of_ble_eq_true hb) hlt
   rw [if_neg hlt,e1,Bool.false_and,if_neg (by simp)]
 len:=fun id hk hl=>by
  rw [y70]
  unfold z8o at hk
  rw [Bool.or_eq_true,Bool.and_eq_true] at hk
  rcases hk with h|⟨h,_⟩
  ·have:id<2:=Nat.le_of_ble_eq_true h
   omega
  ·exact Nat.le_of_ble_eq_true h
end Go.Am
end
section
namespace Go.Am
noncomputable def u0e:List CF:=[⟨w66,G19⟩]
theorem gokB:GamOk P34 u0e:=fun cf h=>by
 cases h with
 |head=>exact v90
 |tail _ h=>cases h
noncomputable def O19:Orc opt:=mkOrc opt std E34 20 ⟨u0e,[],[]⟩ []
theorem hO19:y4m P34 O19:=mkOrc_ok w8e gokB _
noncomputable abbrev v37 (g:Nat) (pos:List Bool) (c:Code) (env:List (Nat×AV)) (h:List AO) (nt:Nat):Option (AX×SS):=sym opt std E34 O19 20 (AX×SS) 0 g pos c ⟨⟨env,h,nt⟩,[]⟩ fun e s=>some (e,s)
theorem w8w {g:Nat} {c:Code} {pos:List Bool} {ss:SS} {e:AX} {ss':SS} (hcd:z05 P34 g pos=some c) (h:sym opt std E34 O19 20 (AX×SS) 0 g pos c ss (fun e s=>some (e,s))=some (e,ss')):
  z2s P34 0 c ss.s (fun e' s2=>e'=e∧s2=ss'.s):=by
 obtain ⟨e0,s0,_,hc,hk⟩:=y5d w8e hO19 20 (AX×SS) 0 g pos c ss _ _ hcd (Nat.zero_le _) h
 cases hk; exact hc
def y1p (N J S:Int) (V:List (List D)):AV:= .d (.agg [.int .i64 N, .int .i64 J, .int .i64 S, .list false 3 V])
theorem v2e:z05 P34 46 [false]=some (z9l [false]):=by kernel_rfl
theorem v17:z05 P34 46 [false,true]=some (z9l [false,true]):=by kernel_rfl
theorem v8b:z05 P34 46 [false,true,true]=some (z9l [false,true,true]):=by kernel_rfl
theorem v8a:z05 P34 46 [false,false,true,true,true]=some (z9l [false,false,true,true,true]):=by kernel_rfl
theorem v18:z05 P34 46 [true,true,true,true,true]=some (z9l [true,true,true,true,true]):=by kernel_rfl
def w25:List Bool:=[false,false,true,true,true,true]
theorem s46:z9l []= .seq (z9l [false]) (.seq (z9l [false,true]) (.seq (z9l [false,true,true]) (.seq (.seq (z9l [false,false,true,true,true]) (.block 0 (.loop (z9l x5a)))) (.seq (.seq (.region 9 (z6b w25) false) (.block 2 (.loop (z9l x1u)))) (z9l [true,true,true,true,true]))))):=by kernel_rfl
theorem v0y (N J S:Int) (V:List (List D)):y86 [false] [(0,y1p N J S V)] []=some (.normal,⟨⟨[(0,y1p N J S V),(1, .bptr 0 0),(2, .d .nilp),(3, .d (.int .i64 0))],[.box (bkC N J S V)],55⟩,[]⟩):=by kernel_rfl
theorem v0r (N J S:Int) (V:List (List D)):v37 46 [false,true] (z9l [false,true]) [(0,y1p N J S V),(1, .bptr 0 0),(2, .d .nilp),(3, .d (.int .i64 0))] [.box (bkC N J S V)] 55=
  opt.bnd (Int×Unit) _ (G19 std (N,(J,(S,(V,()))))) fun y=>opt.ask _ (std.cmp .neq y.1 0)
   (some (.ret,⟨⟨[(0,y1p N J S V),(1, .bptr 0 0),(2, .d .nilp),(3, .d (.int .i64 y.1)),(8,y1p N J S V),(9, .d (.int .i64 y.1)),(4, .d (.int .i64 y.1)),(10, .d (.int .i64 y.1)),(11, .d (.bool true)),(12, .d (.int .i64 y.1))],[.box (bkC N J S V)],55⟩,[]⟩))
   (some (.normal,⟨⟨[(0,y1p N J S V),(1, .bptr 0 0),(2, .d .nilp),(3, .d (.int .i64 0)),(8,y1p N J S V),(9, .d (.int .i64 y.1)),(4, .d (.int .i64 y.1)),(10, .d (.int .i64 y.1)),(11, .d (.bool false))],[.box (bkC N J S V)],55⟩,[]⟩)):=by kernel_rfl
theorem v7x (N J S:Int) (V:List (List D)):y86 [false,true,true] [(1, .bptr 0 0)] [.box (bkC N J S V)]=some (.normal,⟨⟨[(1, .bptr 0 0),(13,y1p N J S V),(14, .d (.agg [.int .i64 N, .int .i64 J, .int .i64 S, .list false 3 V, .list true 0 []])),(15, .bptr 1 0),(5, .bptr 1 0)],[.box (bkC N J S V), .box (bkC N J S V++[.d (.list true 0 [])])],55⟩,[]⟩):=by kernel_rfl
theorem v7w (N J S:Int) (V:List (List D)):y86 [false,false,true,true,true] [(1, .bptr 0 0),(5, .bptr 1 0)] [.box (bkC N J S V), .box (bkC N J S V++[.d (.list true 0 [])])]=some (.normal,⟨⟨[(1, .bptr 0 0),(5, .bptr 1 0),(16, .bptr 0 1),(17, .d (.int .i64 J)),(18, .d (.int .i64 0))],[.box (bkC N J S V), .box (bkC N J S V++[.d (.list true 0 [])])],55⟩,[]⟩):=by kernel_rfl
theorem v0s (h:List AO):y86 [true,true,true,true,true] [(5, .bptr 1 0)] h=some (.ret,⟨⟨[(5, .bptr 1 0),(54, .bptr 1 0),(2, .bptr 1 0),(3, .d (.int .i64 0))],h,55⟩,[]⟩):=by kernel_rfl
theorem u0f:∃ fn,P34.funcs[46]?=some fn∧fn.body=some (z9l [])∧fn.ntmps=55∧fn.results.toList=[.tmp 2, .tmp 3]:=by
 have:(P34.funcs[46]?.map fun fn=>(fn.body,fn.ntmps,fn.results.toList))=some (some (z9l []),55,[.tmp 2, .tmp 3]):=by kernel_rfl
 cases hq:P34.funcs[46]? with
 |none=>rw [hq] at this; cases this
 |some fn=>
  rw [hq] at this
  simp only [Option.map_some,Option.some.injEq,Prod.mk.injEq] at this
  exact ⟨fn,rfl,this.1,this.2.1,this.2.2⟩
theorem y6n {N J S e:Int} {V:List (List D)} (h19:G19 std (N,(J,(S,(V,()))))=some (e,())) (he:e≠0):z6e P34 46 [y1p N J S V] [] (.tuple [.d .nilp, .d (.int .i64 e)]) [.box (bkC N J S V)]:=by
 obtain ⟨fn,hf,hb,hnt,hres⟩:=u0f
 refine z20 x24 hf hb hnt (by show 1≤55; omega) ?_
 rw [hres,s46]
 refine z0h ((y7b v2e (v0y N J S V)).mono ?_)
 rintro e1 s1 ⟨rfl,rfl⟩
 have hc:std.cmp .neq e 0=true:=by rw [x00,decide_eq_false he]; rfl
 refine z0h ((w8w v17 ((v0r N J S V).trans (by rw [h19]; show opt.ask _ (std.cmp .neq e 0) _ _=_; rw [hc]; rfl))).mono ?_)
 rintro e1 s1 ⟨rfl,rfl⟩
 exact ⟨.inr rfl,rfl,rfl⟩
theorem x7f {env:List (Nat×AV)} {h:List AO} {N J S:Int} {V:List (List D)} {new a:Nat} (ha:z0r env a= .bptr 0 3) (hh:z0e h 0= .box (bkC N J S V)):
  z0i std E34.T env h new false [] [] (.load 22 (.tmp a))=some ⟨true, .d (.list false 3 V),[]⟩:=by
 simp only [z0i,v9k,z0n,ha,z5f,z1k,hh,bkC,v9l]
 rfl
theorem w01 {env:List (Nat×AV)} {h:List AO} {V:List (List D)} {new a:Nat} (ha:z0r env a= .d (.list false 3 V)):
  z0i std E34.T env h new false [] [] (.call ⟨.builtin .len,#[.tmp a],#[22]⟩)=some ⟨true, .d (.int .i64 (std.ofNat (std.len V))),[]⟩:=by
 show z1b std E34.T h new false [] .len [22] [z0r env a]=_
 rw [ha]
 rfl
theorem x5w {env:List (Nat×AV)} {h:List AO} {V:List (List D)} {a:Nat} (ha:z0r env a= .d (.list false 3 V)):(z08 std E34.T env h (.call ⟨.builtin .len,#[.tmp a],#[22]⟩)).ok false [] []:=by
 first
  |exact trivial
  |(simp only [z08,z1r,z0n,ha]; trivial)
theorem w41 {h:List AO} {N J S:Int} {V:List (List D)} (h0:z0e h 0= .box (bkC N J S V)) {env:List (Nat×AV)} (g1:z0r env 1= .bptr 0 0) (g5:z0r env 5= .bptr 1 0)
  {Q:AS→Prop} (hQ:Q ⟨y2f V (V.length:Int) ((0:Nat):Int),h,55⟩):z4m P34 0 (z6b w25) (List.range (z6b w25).size) ⟨env,h,55⟩ (fun s=>∃ s',z2b 0 s s'∧Q s'):=by
 have hr:List.range (z6b w25).size=[0,1,2,3]:=by kernel_rfl
 obtain ⟨w0,o0⟩:=z3r (p:=w25) (i:=0) (dst:=some 33) (op:= .fieldAddr 24 (.tmp 1) 3) (by kernel_rfl)
 obtain ⟨w1,o1⟩:=z3r (p:=w25) (i:=1) (dst:=some 34) (op:= .load 22 (.tmp 33)) (by kernel_rfl)
 obtain ⟨w2,o2⟩:=z3r (p:=w25) (i:=2) (dst:=some 35) (op:= .call ⟨.builtin .len,#[.tmp 34],#[22]⟩) (by kernel_rfl)
 obtain ⟨w3,o3⟩:=z3r (p:=w25) (i:=3) (dst:=some 36) (op:= .move (.const (.int .i64 0))) (by kernel_rfl)
 rw [hr]
 refine z3q o0 (q:=false) (r:=[]) (ra:=[]) (res:=⟨true, .bptr 0 3,[]⟩) trivial (by
  have e:z0i std E34.T env h h.length false [] [] (.fieldAddr 24 (.tmp 1) 3)=z0i std E34.T [(1, .bptr 0 0)] h h.length false [] [] (.fieldAddr 24 (.tmp 1) 3):=by
   simp only [z0i,z0n,g1]; rfl
  exact e.trans (by kernel_rfl)) rfl rfl ?_
 show z4m P34 0 _ [1,2,3] ⟨z4n env 33 (.bptr 0 3),h,55⟩ _
 have a33:z0r (z4n env 33 (.bptr 0 3)) 33= .bptr 0 3:=z0v _ _ _
 have a1:z0r (z4n env 33 (.bptr 0 3)) 1= .bptr 0 0:=by rw [z0l _ _ _ _ (by decide)]; exact g1
 have a5:z0r (z4n env 33 (.bptr 0 3)) 5= .bptr 1 0:=by rw [z0l _ _ _ _ (by decide)]; exact g5
 generalize z4n env 33 (.bptr 0 3)=env1 at a33 a1 a5⊢
 refine z3q o1 (q:=false) (r:=[]) (ra:=[]) (res:=⟨true, .d (.list false 3 V),[]⟩) (z2p a33 h0) (x7f a33 h0) rfl rfl ?_
 show z4m P34 0 _ [2,3] ⟨z4n env1 34 (.d (.list false 3 V)),h,55⟩ _
 have b34:z0r (z4n env1 34 (.d (.list false 3 V))) 34= .d (.list false 3 V):=z0v _ _ _
 have b1:z0r (z4n env1 34 (.d (.list false 3 V))) 1= .bptr 0 0:=by rw [z0l _ _ _ _ (by decide)]; exact a1
 have b5:z0r (z4n env1 34 (.d (.list false 3 V))) 5= .bptr 1 0:=by rw [z0l _ _ _ _ (by decide)]; exact a5
 generalize z4n env1 34 (.d (.list false 3 V))=env2 at b34 b1 b5⊢
 refine z3q o2 (q:=false) (r:=[]) (ra:=[]) (res:=⟨true, .d (.int .i64 (std.ofNat (std.len V))),[]⟩) (x5w b34) (w01 b34) rfl rfl ?_
 show z4m P34 0 _ [3] ⟨z4n env2 35 (.d (.int .i64 (V.length:Int))),h,55⟩ _
 refine z3q o3 (q:=false) (r:=[]) (ra:=[]) (res:=⟨true, .d (.int .i64 0),[]⟩) trivial rfl rfl rfl ?_
 refine z1t ⟨_,z2b.env (n:=0) (s:=⟨_,h,55⟩) (z04 fun x hx=>?_),hQ⟩
 simp only [y2f,List.mem_cons,List.not_mem_nil,or_false] at hx
 rcases hx with rfl|rfl|rfl|rfl|rfl
 ·show z0r (z4n (z4n env2 35 _) 36 _) 1=_
  rw [z0l _ 36 1 _ (by decide),z0l _ 35 1 _ (by decide)]; exact b1
 ·show z0r (z4n (z4n env2 35 _) 36 _) 5=_
  rw [z0l _ 36 5 _ (by decide),z0l _ 35 5 _ (by decide)]; exact b5
 ·show z0r (z4n (z4n env2 35 _) 36 _) 34=_
  rw [z0l _ 36 34 _ (by decide),z0l _ 35 34 _ (by decide)]; exact b34
 ·show z0r (z4n (z4n env2 35 _) 36 _) 35=_
  rw [z0l _ 36 35 _ (by decide),z0v]
 ·show z0r (z4n (z4n env2 35 _) 36 _) 36=_
  rw [z0v]; rfl
theorem w3x {N S:Int} {n:Nat} {l:List Vt} (h19:G19 std (N,((n:Int),(S,(z0k l,()))))=some (0,())) (hn:n≤1000) (hl:l.length≤1000) (hj:∀ v∈l,0≤v.1∧v.1<(n:Int)):
  z6e P34 46 [y1p N n S (z0k l)] [] (.tuple [.bptr 1 0, .d (.int .i64 0)]) (x46 N n S (z0k l) n (fun i=>z1g l (i:Int))):=by
 obtain ⟨fn,hf,hb,hnt,hres⟩:=u0f
 refine z20 x24 hf hb hnt (by show 1≤55; omega) ?_
 rw [hres,s46]
 refine z0h ((y7b v2e (v0y N n S (z0k l))).mono ?_)
 rintro e1 s1 ⟨rfl,rfl⟩
 refine z0h ((w8w v17 ((v0r N n S (z0k l)).trans (by rw [h19]; rfl))).mono ?_)
 rintro e1 s1 ⟨rfl,rfl⟩
 refine z06 (s':=⟨[(1, .bptr 0 0)],[.box (bkC N n S (z0k l))],55⟩) (z2b.env (n:=0) (s:=⟨_,[.box (bkC N n S (z0k l))],55⟩) (z04 fun x hx=>by
  simp only [List.mem_cons,List.not_mem_nil,or_false] at hx
  rcases hx with rfl; rfl)) ?_
 refine z0h ((y7b v8b (v7x N n S (z0k l))).mono ?_)
 rintro e1 s1 ⟨rfl,rfl⟩
 refine z06 (s':=⟨[(1, .bptr 0 0),(5, .bptr 1 0)],[.box (bkC N n S (z0k l)), .box (bkC N n S (z0k l)++[.d (.list true 0 [])])],55⟩) (z2b.env (n:=0) (s:=⟨_,[.box (bkC N n S (z0k l)), .box (bkC N n S (z0k l)++[.d (.list true 0 [])])],55⟩) (z04 fun x hx=>by
  simp only [List.mem_cons,List.not_mem_nil,or_false] at hx
  rcases hx with rfl|rfl<;>rfl)) ?_
 refine z0h (z0h ((y7b v8a (v7w N n S (z0k l))).mono ?_))
 rintro e1 s1 ⟨rfl,rfl⟩
 refine z06 (s':=⟨mkJ (n:Int) ((0:Nat):Int),[.box (bkC N n S (z0k l)), .box (bkC N n S (z0k l)++[.d (.list true 0 [])])],55⟩) (z2b.env (n:=0) (s:=⟨_,[.box (bkC N n S (z0k l)), .box (bkC N n S (z0k l)++[.d (.list true 0 [])])],55⟩) (z04 fun x hx=>by
  simp only [mkJ,List.mem_cons,List.not_mem_nil,or_false] at hx
  rcases hx with rfl|rfl|rfl|rfl<;>rfl)) ?_
 refine z1f ?_
 have hf0:x9j [.box (bkC N n S (z0k l)), .box (bkC N n S (z0k l)++[.d (.list true 0 [])])] N n S (z0k l) 0 (fun i=>z1g (l.take 0) (i:Int)):=
  ⟨rfl,rfl,rfl,fun h=>absurd h (Nat.lt_irrefl 0),fun i hi=>absurd hi (Nat.not_lt_zero i),fun i hi=>absurd hi (Nat.not_lt_zero i)⟩
 refine w9i (M:=n) hf0 hn (fun i=>rfl) fun h' hf'=>?_
 simp only [if_true]
 have hf7:=hf'.to7
 refine z0h (z0h (z0t (z0z (w41 hf7.b0 rfl rfl (Q:=fun s'=>z2s P34 0 (.block 2 (.loop (z9l x1u))) s' _) ?_))))
 rw [show (z0k l).length=l.length from by simp [z0k]]
 refine z1f ?_
 refine w39 hn hl hj hf7 fun h2 hf2=>?_
 simp only [if_true]
 refine z06 (s':=⟨[(5, .bptr 1 0)],h2,55⟩) (z2b.env (n:=0) (s:=⟨_,h2,55⟩) (z04 fun x hx=>by
  simp only [List.mem_cons,List.not_mem_nil,or_false] at hx
  rcases hx with rfl; rfl)) ?_
 refine z0t ((y7b v18 (v0s h2)).mono ?_)
 rintro e1 s1 ⟨rfl,rfl⟩
 have hv:=z2b.view (n:=0) (s:=⟨[(5, .bptr 1 0),(54, .bptr 1 0),(2, .bptr 1 0),(3, .d (.int .i64 0))],h2,55⟩) (z8o n) (fun id hid=>absurd hid (Nat.not_lt_zero _)) (x4w hf2)
 refine ⟨_,hv, .inr rfl,?_,rfl⟩
 rfl
end Go.Am
end
section
namespace Go.Am
noncomputable def cdF (g:Nat) (pos:List Bool):Code:=(z05 P34 g pos).getD .skip
noncomputable def z2t (g:Nat) (pos:List Bool):Array Oper:=
 match cdF g pos with
 | .region _ ops _=>ops
 |_=>#[]
theorem z03 {g:Nat} {p:List Bool} {i:Nat} {dst:Option Tmp} {op:Op} (h:((z2t g p)[i]?.map fun o=>(o.dst,o.op,o.guard))=some (dst,op,none)):∃ o,(z2t g p)[i]?=some o∧o.dst=dst∧o.op=op∧o.guard=none:=by
 cases ho:(z2t g p)[i]? with
 |none=>rw [ho] at h; cases h
 |some o=>
  rw [ho] at h
  simp only [Option.map_some,Option.some.injEq,Prod.mk.injEq] at h
  exact ⟨o,rfl,h.1,h.2.1,h.2.2⟩
theorem rgF {g:Nat} {c:Code} {pos:List Bool} {ss:SS} {e:AX} {ss':SS} (hcd:z05 P34 g pos=some c) (h:sym opt std E34 (w0t opt) 20 (AX×SS) 0 g pos c ss (fun e s=>some (e,s))=some (e,ss')):
  z2s P34 0 c ss.s (fun e' s2=>e'=e∧s2=ss'.s):=by
 obtain ⟨e0,s0,_,hc,hk⟩:=y5d w8e y3y 20 (AX×SS) 0 g pos c ss _ _ hcd (Nat.zero_le _) h
 cases hk; exact hc
noncomputable abbrev w4v (g:Nat) (pos:List Bool) (env:List (Nat×AV)) (h:List AO) (nt:Nat):Option (AX×SS):=sym opt std E34 (w0t opt) 20 (AX×SS) 0 g pos (cdF g pos) ⟨⟨env,h,nt⟩,[]⟩ fun e s=>some (e,s)
def slB (b n:Nat):AV:=if n=0 then .d (.list true 0 []) else .slice (b+(4*n+1)) 2 0 n none
def x6p (b n:Nat):List (List AV):=(List.range n).map fun i=>[AV.map (b+(2+4*i)),AV.map (b+(3+4*i))]
theorem y87 {b n j:Nat} (hj:j<n):(x6p b n)[j]?=some [.map (b+(2+4*j)), .map (b+(3+4*j))]:=by simp [x6p,hj]
structure x5p (h:List AO) (b:Nat) (N J S:Int) (V:List (List D)) (n:Nat) (f:Nat→JM×JM):Prop where
 len:b+(2+4*n)≤h.length
 b1:z0e h (b+1)= .box (bkC N J S V++[slB b n])
 arr:0<n→z0e h (b+(4*n+1))= .arow (x6p b n)
 said:∀ i,i<n→z0e h (b+(2+4*i))= .map (EJ.enc (f i).1)
 slip:∀ i,i<n→z0e h (b+(3+4*i))= .map (EJ.enc (f i).2)
theorem x5p.keep {h h':List AO} {b:Nat} {N J S:Int} {V:List (List D)} {n:Nat} {f:Nat→JM×JM} (hf:x5p h b N J S V n f) (hl:h.length≤h'.length) (hk:∀ j,b<j→j<b+(2+4*n)→z0e h' j=z0e h j):x5p h' b N J S V n f:=by
 have hh:=hf.len
 refine ⟨by omega,?_,fun hn=>?_,fun i hi=>?_,fun i hi=>?_⟩
 ·rw [hk _ (by omega) (by omega)]; exact hf.b1
 ·rw [hk _ (by omega) (by omega)]; exact hf.arr hn
 ·rw [hk _ (by omega) (by omega)]; exact hf.said i hi
 ·rw [hk _ (by omega) (by omega)]; exact hf.slip i hi
theorem x3o {n:Nat} {env:List (Nat×AV)} {h:List AO} {nt:Nat} {g:FuncId} {args:List AV} {r:AV} {hT:List AO} (hn:n≤h.length) (ha:∀ x∈args,∃ d,x=AV.d d) (har:z6e P34 g args [] r hT):
  z38 P34 n g args ⟨env,h,nt⟩ (z46 (z1a [] h.length) r) ⟨env,z1e (z1a [] h.length) h 0 hT,nt⟩:=by
 refine z9b (P:=P34) (n:=n) (s:=⟨env,h,nt⟩) (σ:=[]) hn rfl rfl (hT:=[]) (Nat.zero_le _) (fun ρ w hr=>⟨trivial,rfl,fun f hf i y hy=>?_⟩) har
 obtain ⟨d,rfl⟩:=ha y (List.mem_of_getElem? hy)
 have:=hf i _ hy
 generalize f i=v at this⊢
 cases this with|d hd=>exact .d hd
theorem z8i (b j:Nat):z1a [] b j=b+j:=rfl
theorem y5b (h:List AO) (hT:List AO):h.length≤(z1e (z1a [] h.length) h 0 hT).length∧(∀ k,k<hT.length→h.length+k<(z1e (z1a [] h.length) h 0 hT).length)∧
  (∀ k,k<hT.length→z0e (z1e (z1a [] h.length) h 0 hT) (h.length+k)=y8d (z1a [] h.length) (z0e hT k))∧∀ id,id<h.length→z0e (z1e (z1a [] h.length) h 0 hT) id=z0e h id:=by
 have inj:∀ a b:Nat,z1a [] h.length a=z1a [] h.length b→a=b:=fun a b e=>by rw [z8i,z8i] at e; omega
 refine ⟨(z6y _ hT h 0).1,fun k hk=>?_,fun k hk=>?_,fun id hid=>?_⟩
 ·have:=(z6y (z1a [] h.length) hT h 0).2 k hk
  rwa [Nat.zero_add,z8i] at this
 ·have:=(z8z (z1a [] h.length) hT h 0 0 (fun a b _ _ _ _ e=>inj a b e)).1 k hk
  rwa [Nat.zero_add,z8i] at this
 ·refine (z8z (z1a [] h.length) hT h 0 id (fun a b _ _ _ _ e=>inj a b e)).2 fun k hk=>?_
  rw [Nat.zero_add,z8i]; omega
theorem w4y (b n:Nat):z46 (z1a [] b) (slJ n)=slB b n:=by
 unfold slJ slB
 by_cases hn:n=0
 ·rw [if_pos hn,if_pos hn]; rfl
 ·rw [if_neg hn,if_neg hn]; rfl
theorem x29 (h:List AO) (N J S:Int) (V:List (List D)) (n:Nat) (f:Nat→JM×JM):x5p (z1e (z1a [] h.length) h 0 (x46 N J S V n f)) h.length N J S V n f:=by
 obtain ⟨w1,w2,w3,w4⟩:=y5b h (x46 N J S V n f)
 rw [y70] at w2 w3
 have hf:=w2g (N:=N) (J:=J) (S:=S) (V:=V) (n:=n) (f:=f)
 refine ⟨?_,?_,fun hn=>?_,fun i hi=>?_,fun i hi=>?_⟩
 ·have:=w2 (2+4*n - 1) (by omega); omega
 ·rw [w3 1 (by omega),hf.b1]
  show AO.box (x04 (z1a [] h.length) (bkC N J S V++[slJ n]))=_
  have:x04 (z1a [] h.length) (bkC N J S V++[slJ n])=bkC N J S V++[z46 (z1a [] h.length) (slJ n)]:=rfl
  rw [this,w4y]
 ·rw [w3 _ (by omega),hf.arr hn]
  show AO.arow (x4c (z1a [] h.length) (z5y n))=_
  rw [z88,z5y,List.map_map]
  rfl
 ·rw [w3 _ (by omega),hf.said i hi]; rfl
 ·rw [w3 _ (by omega),hf.slip i hi]; rfl
end Go.Am
end
section
namespace Go.Am
theorem x2m {ops:Array Oper} {i:Nat} {rest:List Nat} {s s':AS} {Q:AS→Prop} {o:Oper} {dst:Option Tmp} {g:FuncId} {args:Array Operand} {ts:Array TypeId} {r:AV}
  (ho:ops[i]?=some o∧o.dst=dst∧o.op= .call ⟨.value (.func g),args,ts⟩∧o.guard=none) (hen:z12 P34 g) (hret:z38 P34 0 g (z1r s.env args.toList) s r s') (hd:z4o s.nt dst=true)
  (h:z4m P34 0 ops rest ⟨y2r s'.env dst r,s'.heap,s'.nt⟩ Q):z4m P34 0 ops (i::rest) s Q:=by
 obtain ⟨h1,rfl,h3,h4⟩:=ho
 exact y1e h1 (by rw [h4]; rfl) h3 (g:=g) (first:=[]) (captured:=[]) rfl hen (by rw [List.nil_append,List.append_nil]; exact hret) hd h
theorem x3b:z12 P34 46:=enters_auto (b:=_) rfl (by kernel_rfl)
theorem v9j:(E34.T 24).map (fun t=>(t.size,t.agg))=some (4,true):=by kernel_rfl
theorem u0b {env:List (Nat×AV)} {h:List AO} {new a:Nat} {N J S:Int} {V:List (List D)} (ha:z0r env a= .bptr 0 0) (hh:z0e h 0= .box (bkC N J S V)):
  z0i std E34.T env h new false [] [] (.load 24 (.tmp a))=some ⟨true,y1p N J S V,[]⟩:=by
 cases ht:E34.T 24 with
 |none=>have:=v9j; rw [ht] at this; cases this
 |some ti=>
  have h1:=v9j
  rw [ht] at h1
  simp only [Option.map_some,Option.some.injEq,Prod.mk.injEq] at h1
  simp only [z0i,z0n,ha,ht,z5f,z1k,hh,h1.1,h1.2]
  rfl
theorem x6w {N J S e:Int} {V:List (List D)} {r0:AV} {hT:List AO} (har:z6e P34 46 [y1p N J S V] [] (.tuple [r0, .d (.int .i64 e)]) hT)
  {Q:AS→Prop} (hQ:Q ⟨[(1, .bptr 0 0),(2, .d (.list true 0 [])),(3, .d (.int .i64 0)),(4,z46 (z1a [] 1) r0),(5, .d (.int .i64 e))],z1e (z1a [] 1) [.box (bkC N J S V)] 0 hT,38⟩):
  z4m P34 0 (z2t 15 [false,true]) (List.range (z2t 15 [false,true]).size) ⟨[(0,y1p N J S V),(1, .bptr 0 0),(2, .d (.list true 0 [])),(3, .d (.int .i64 0))],[.box (bkC N J S V)],38⟩ (fun s=>∃ s',z2b 0 s s'∧Q s'):=by
 have hr:List.range (z2t 15 [false,true]).size=[0,1,2,3,4,5,6]:=by kernel_rfl
 obtain ⟨w0,o0⟩:=z03 (g:=15) (p:=[false,true]) (i:=0) (dst:=some 10) (op:= .load 24 (.tmp 1)) (by kernel_rfl)
 obtain ⟨w1,o1⟩:=z03 (g:=15) (p:=[false,true]) (i:=1) (dst:=some 11) (op:= .call ⟨.value (.func 46),#[.tmp 10],#[24]⟩) (by kernel_rfl)
 obtain ⟨w2,o2⟩:=z03 (g:=15) (p:=[false,true]) (i:=2) (dst:=some 9) (op:= .move (.tmp 11)) (by kernel_rfl)
 obtain ⟨w3,o3⟩:=z03 (g:=15) (p:=[false,true]) (i:=3) (dst:=some 12) (op:= .extract (.tmp 9) 0) (by kernel_rfl)
 obtain ⟨w4,o4⟩:=z03 (g:=15) (p:=[false,true]) (i:=4) (dst:=some 13) (op:= .extract (.tmp 9) 1) (by kernel_rfl)
 obtain ⟨w5,o5⟩:=z03 (g:=15) (p:=[false,true]) (i:=5) (dst:=some 4) (op:= .assign (.tmp 12)) (by kernel_rfl)
 obtain ⟨w6,o6⟩:=z03 (g:=15) (p:=[false,true]) (i:=6) (dst:=some 5) (op:= .assign (.tmp 13)) (by kernel_rfl)
 rw [hr]
 refine z3q o0 (q:=false) (r:=[]) (ra:=[]) (res:=⟨true,y1p N J S V,[]⟩) trivial (u0b rfl rfl) rfl rfl ?_
 refine x2m o1 x3b (r:=z46 (z1a [] 1) (.tuple [r0, .d (.int .i64 e)])) (x3o (Nat.zero_le _) (fun x hx=>by
  have hx:x∈[y1p N J S V]:=hx
  rw [List.mem_singleton] at hx
  exact ⟨_,hx⟩) har) rfl ?_
 have er:z46 (z1a [] 1) (.tuple [r0, .d (.int .i64 e)])= .tuple [z46 (z1a [] 1) r0, .d (.int .i64 e)]:=rfl
 rw [er]
 show z4m P34 0 _ [2,3,4,5,6] ⟨_,z1e (z1a [] 1) [.box (bkC N J S V)] 0 hT,38⟩ _
 generalize z46 (z1a [] 1) r0=x at hQ⊢
 generalize z1e (z1a [] 1) [.box (bkC N J S V)] 0 hT=H at hQ⊢
 refine z3q o2 (q:=false) (r:=[]) (ra:=[]) (res:=⟨true, .tuple [x, .d (.int .i64 e)],[]⟩) trivial rfl rfl rfl ?_
 refine z3q o3 (q:=false) (r:=[]) (ra:=[]) (res:=⟨true,x,[]⟩) trivial rfl rfl rfl ?_
 refine z3q o4 (q:=false) (r:=[]) (ra:=[]) (res:=⟨true, .d (.int .i64 e),[]⟩) trivial rfl rfl rfl ?_
 refine z3q o5 (q:=false) (r:=[]) (ra:=[]) (res:=⟨true,x,[]⟩) trivial rfl rfl rfl ?_
 refine z3q o6 (q:=false) (r:=[]) (ra:=[]) (res:=⟨true, .d (.int .i64 e),[]⟩) trivial rfl rfl rfl ?_
 refine z1t ⟨_,z2b.env (n:=0) (s:=⟨_,H,38⟩) (z04 fun x hx=>?_),hQ⟩
 simp only [List.mem_cons,List.not_mem_nil,or_false] at hx
 rcases hx with rfl|rfl|rfl|rfl|rfl<;>rfl
def B15:List Bool:=[false,false,true,false,true,true,true,true]
def x9n:List Bool:=[false,true,true,true]
def x4f:List Bool:=[false,false,true,true,true,true]
def x9l:List Bool:=[false,false,false,true,true]++B15
def x5l:List Bool:=[true,false,false,true,true]++B15
theorem s15:cdF 15 []= .seq (cdF 15 [false]) (.seq (.region 1 (z2t 15 [false,true]) false) (.seq (cdF 15 [false,true,true]) (.seq (.region 4 (z2t 15 x9n) false) (.seq (.seq (.region 5 (z2t 15 x4f) false) (.block 0 (.loop (cdF 15 B15)))) (cdF 15 [true,true,true,true,true]))))):=by kernel_rfl
theorem sB15:cdF 15 B15= .seq (cdF 15 (false::B15)) (.seq (.cond (.tmp 26) .skip (.exit 0)) (.seq (.block 1 (.seq (.region 7 (z2t 15 x9l) false) (.region 8 (z2t 15 x5l) false))) (cdF 15 ([true,true,true]++B15)))):=by kernel_rfl
theorem w5a {N S:Int} {V:List (List D)} {n:Nat} (hn:n≤1000) {h:List AO} (h0:z0e h 0= .box (bkC N n S V)) {x:AV}
  {Q:AS→Prop} (hQ:Q ⟨[(1, .bptr 0 0),(4,x),(6, .slice h.length 1 0 n (some n))],z0o h h.length (.row (List.replicate n [.int .i64 0])),38⟩):
  z4m P34 0 (z2t 15 x9n) (List.range (z2t 15 x9n).size) ⟨[(1, .bptr 0 0),(4,x)],h,38⟩ (fun s=>∃ s',z2b 0 s s'∧Q s'):=by
 have hr:List.range (z2t 15 x9n).size=[0,1,2,3]:=by kernel_rfl
 obtain ⟨w0,o0⟩:=z03 (g:=15) (p:=x9n) (i:=0) (dst:=some 17) (op:= .fieldAddr 24 (.tmp 1) 1) (by kernel_rfl)
 obtain ⟨w1,o1⟩:=z03 (g:=15) (p:=x9n) (i:=1) (dst:=some 18) (op:= .load 3 (.tmp 17)) (by kernel_rfl)
 obtain ⟨w2,o2⟩:=z03 (g:=15) (p:=x9n) (i:=2) (dst:=some 19) (op:= .makeSlice 26 (.tmp 18) (.tmp 18)) (by kernel_rfl)
 obtain ⟨w3,o3⟩:=z03 (g:=15) (p:=x9n) (i:=3) (dst:=some 6) (op:= .assign (.tmp 19)) (by kernel_rfl)
 rw [hr]
 refine z3q o0 (q:=false) (r:=[]) (ra:=[]) (res:=⟨true, .bptr 0 1,[]⟩) trivial (by kernel_rfl) rfl rfl ?_
 refine z3q o1 (q:=false) (r:=[]) (ra:=[]) (res:=⟨true, .d (.int .i64 (n:Int)),[]⟩) (z2p rfl h0) (ld3 rfl h0 rfl) rfl rfl ?_
 have hc:std.and (std.cmp .geq (n:Int) 0) (std.and (std.cmp .leq (n:Int) n) (std.cmp .leq (n:Int) 1000000))=true:=by
  rw [y3k,y60,y60,x6b,x6b,decide_eq_true (show (n:Int)≥0 by omega),decide_eq_true (Int.le_refl _),decide_eq_true (show (n:Int)≤1000000 by omega)]; rfl
 refine z3q o2 (q:=false) (r:=[]) (ra:=[]) (res:=⟨std.and (std.cmp .geq (n:Int) 0) (std.and (std.cmp .leq (n:Int) n) (std.cmp .leq (n:Int) 1000000)), .slice h.length 1 0 n (some n),[(h.length, .row (List.replicate n [.int .i64 0]))]⟩) trivial (by
  show z0i std E34.T [(1, .bptr 0 0),(4,x),(17, .bptr 0 1),(18, .d (.int .i64 (n:Int)))] h h.length false [] [] (.makeSlice 26 (.tmp 18) (.tmp 18))=_
  simp only [z0i,w2z]
  rfl) hc rfl ?_
 refine z3q o3 (q:=false) (r:=[]) (ra:=[]) (res:=⟨true, .slice h.length 1 0 n (some n),[]⟩) trivial rfl rfl rfl ?_
 refine z1t ⟨_,z2b.env (n:=0) (s:=⟨_,_,38⟩) (z04 fun x hx=>?_),hQ⟩
 simp only [List.mem_cons,List.not_mem_nil,or_false] at hx
 rcases hx with rfl|rfl|rfl<;>rfl
end Go.Am
end
section
namespace Go.Am
def slN (b n:Nat):AV:= .slice (b+(4*n+1)) 2 0 n none
theorem x6j {b n:Nat} (hn:0<n):slB b n=slN b n:=by unfold slB slN; rw [if_neg (by omega)]
theorem w9l {env:List (Nat×AV)} {h:List AO} {N J S:Int} {V:List (List D)} {v:AV} {new a x:Nat} (ha:z0r env a= .bptr x 4) (hh:z0e h x= .box (bkC N J S V++[v])) (hv:z3s false [v]=some v):
  z0i std E34.T env h new false [] [] (.load 64 (.tmp a))=some ⟨true,v,[]⟩:=by
 simp only [z0i,x90,z0n,ha,z5f,z1k,hh,bkC,w4d]
 show (z3s false [v]).bind ok=_
 rw [hv]; rfl
theorem u0a {env:List (Nat×AV)} {h:List AO} {new a b n:Nat} (ha:z0r env a=slN b n):
  z0i std E34.T env h new false [] [] (.call ⟨.builtin .len,#[.tmp a],#[64]⟩)=some ⟨true, .d (.int .i64 (n:Int)),[]⟩:=by
 show z1b std E34.T h new false [] .len [64] [z0r env a]=_
 rw [ha]
 simp only [z1b,x90]
 rfl
def y7k (L n:Nat) (i:Int):List (Nat×AV):=[(6, .slice L 1 0 n (some n)),(23,slN 1 n),(24, .d (.int .i64 (n:Int))),(25, .d (.int .i64 i))]
theorem y32 {L n:Nat} {i:Int} {env:List (Nat×AV)} (h6:z0r env 6= .slice L 1 0 n (some n)) (h23:z0r env 23=slN 1 n) (h24:z0r env 24= .d (.int .i64 (n:Int))) (h25:z0r env 25= .d (.int .i64 i)):y2m (y7k L n i) env:=by
 refine z04 fun x hx=>?_
 simp only [y7k,List.mem_cons,List.not_mem_nil,or_false] at hx
 rcases hx with rfl|rfl|rfl|rfl
 ·exact h6
 ·exact h23
 ·exact h24
 ·exact h25
theorem w48 {N S:Int} {V:List (List D)} {n L:Nat} (hn:0<n) {f:Nat→JM×JM} {h:List AO} (hf:x5p h 1 N n S V n f)
  {Q:AS→Prop} (hQ:Q ⟨y7k L n ((0:Nat):Int),h,38⟩):
  z4m P34 0 (z2t 15 x4f) (List.range (z2t 15 x4f).size) ⟨[(1, .bptr 0 0),(4, .bptr 2 0),(6, .slice L 1 0 n (some n))],h,38⟩ (fun s=>∃ s',z2b 0 s s'∧Q s'):=by
 have hr:List.range (z2t 15 x4f).size=[0,1,2,3,4,5]:=by kernel_rfl
 obtain ⟨w0,o0⟩:=z03 (g:=15) (p:=x4f) (i:=0) (dst:=some 20) (op:= .move (.tmp 4)) (by kernel_rfl)
 obtain ⟨w1,o1⟩:=z03 (g:=15) (p:=x4f) (i:=1) (dst:=some 21) (op:= .nilCheck (.tmp 20)) (by kernel_rfl)
 obtain ⟨w2,o2⟩:=z03 (g:=15) (p:=x4f) (i:=2) (dst:=some 22) (op:= .fieldAddr 66 (.tmp 21) 1) (by kernel_rfl)
 obtain ⟨w3,o3⟩:=z03 (g:=15) (p:=x4f) (i:=3) (dst:=some 23) (op:= .load 64 (.tmp 22)) (by kernel_rfl)
 obtain ⟨w4,o4⟩:=z03 (g:=15) (p:=x4f) (i:=4) (dst:=some 24) (op:= .call ⟨.builtin .len,#[.tmp 23],#[64]⟩) (by kernel_rfl)
 obtain ⟨w5,o5⟩:=z03 (g:=15) (p:=x4f) (i:=5) (dst:=some 25) (op:= .move (.const (.int .i64 0))) (by kernel_rfl)
 have hb:=hf.b1
 rw [x6j hn] at hb
 rw [hr]
 refine z3q o0 (q:=false) (r:=[]) (ra:=[]) (res:=⟨true, .bptr 2 0,[]⟩) trivial rfl rfl rfl ?_
 refine z3q o1 (q:=false) (r:=[]) (ra:=[]) (res:=⟨true, .bptr 2 0,[]⟩) trivial rfl rfl rfl ?_
 refine z3q o2 (q:=false) (r:=[]) (ra:=[]) (res:=⟨true, .bptr 2 4,[]⟩) trivial (by kernel_rfl) rfl rfl ?_
 refine z3q o3 (q:=false) (r:=[]) (ra:=[]) (res:=⟨true,slN 1 n,[]⟩) (z2p rfl hb) (w9l rfl hb rfl) rfl rfl ?_
 refine z3q o4 (q:=false) (r:=[]) (ra:=[]) (res:=⟨true, .d (.int .i64 (n:Int)),[]⟩) (by exact trivial) (u0a (b:=1) rfl) rfl rfl ?_
 refine z3q o5 (q:=false) (r:=[]) (ra:=[]) (res:=⟨true, .d (.int .i64 0),[]⟩) trivial rfl rfl rfl ?_
 exact z1t ⟨_,z2b.env (n:=0) (s:=⟨_,_,38⟩) (y32 rfl rfl rfl rfl),hQ⟩
theorem x9d {env:List (Nat×AV)} {h:List AO} {new:Nat}:z0i std E34.T env h new false [] [] (.alloc 69)=some ⟨true, .bptr new 0,[(new, .box [.d .nilm, .d .nilm])]⟩:=by
 simp only [z0i,v3e]
 rfl
theorem x59 {env:List (Nat×AV)} {h:List AO} {new a c id x y:Nat} (ha:z0r env a= .bptr id 0) (hc:z0r env c= .agg [.map x, .map y]) (hh:z0e h id= .box [.d .nilm, .d .nilm]):
  z0i std E34.T env h new false [] [] (.store 69 (.tmp a) (.tmp c))=some ⟨true, .bot,[(id, .box [.map x, .map y])]⟩:=by
 simp only [z0i,v3e,z0n,ha,hc,z2d,z1w,v3f,z1j,hh]
 rfl
theorem x12 {env:List (Nat×AV)} {h:List AO} {t:TypeId} {a c id off:Nat} {l:List AV} (ha:z0r env a= .bptr id off) (hh:z0e h id= .box l):(z08 std E34.T env h (.store t (.tmp a) (.tmp c))).ok false [] []:=by
 simp only [z08,z0n,ha,z21,hh,y23.ok]
theorem u0d {env:List (Nat×AV)} {h:List AO} {new a c b n j:Nat} (ha:z0r env a=slN b n) (hb:z0r env c= .d (.int .i64 (j:Int))):
  z0i std E34.T env h new false [] [] (.indexAddr 64 (.tmp a) (.tmp c))=some ⟨std.cmp .geq (j:Int) 0&&std.cmp .lss (j:Int) (std.ofNat n), .ptr (b+(4*n+1)) j 0,[]⟩:=by
 have e:(AV.ptr (b+(4*n+1)) j 0)= .ptr (b+(4*n+1)) (0+j) 0:=by rw [Nat.zero_add]
 rw [e]
 simp only [z0i,x90,z0n,ha,hb]
 rfl
theorem v5i {env:List (Nat×AV)} {h:List AO} {new a id x y:Nat} {off z:Nat} (ha:z0r env a= .bptr id off) (hh:z0e h id= .box [.map x, .map y]) (hz:([AV.map x, .map y])[off]?=some (.map z)):
  z0i std E34.T env h new false [] [] (.load 67 (.tmp a))=some ⟨true, .map z,[]⟩:=by
 simp only [z0i,w4a,z0n,ha,z5f,z1k,hh,w8j]
 match off,hz with
 |0,hz=>cases hz; rfl
 |1,hz=>cases hz; rfl
 |k+2,hz=>simp at hz
theorem v99 {env:List (Nat×AV)} {h:List AO} {new a z:Nat} {m:JM} (ha:z0r env a= .map z) (hh:z0e h z= .map (EJ.enc m)):
  z0i std E34.T env h new false [] [] (.call ⟨.builtin .len,#[.tmp a],#[67]⟩)=some ⟨true, .d (.int .i64 (m.length:Int)),[]⟩:=by
 show z1b std E34.T h new false [] .len [67] [z0r env a]=_
 rw [ha]
 simp only [z1b,w4a,x9p,w8j,hh]
 have:std.mlen (EJ.enc m)=m.length:=by
  first
   |rfl
   |(show (EJ.enc m).length=_; simp [x9g.enc])
 show some (Res.mk true (.d (.int .i64 (std.ofNat (std.mlen (EJ.enc m))))) [])=_
 rw [this]; rfl
theorem v6d {env:List (Nat×AV)} {h:List AO} {new a c L n j:Nat} (ha:z0r env a= .slice L 1 0 n (some n)) (hb:z0r env c= .d (.int .i64 (j:Int))):
  z0i std E34.T env h new false [] [] (.indexAddr 26 (.tmp a) (.tmp c))=some ⟨std.cmp .geq (j:Int) 0&&std.cmp .lss (j:Int) (std.ofNat n), .ptr L j 0,[]⟩:=by
 have e:(AV.ptr L j 0)= .ptr L (0+j) 0:=by rw [Nat.zero_add]
 rw [e]
 simp only [z0i,w2z,z0n,ha,hb]
 rfl
theorem w34 {env:List (Nat×AV)} {h:List AO} {t:TypeId} {a c L j:Nat} {es:List (List D)} {r:List D} (ha:z0r env a= .ptr L j 0) (hh:z0e h L= .row es) (hE:es[j]?=some r):(z08 std E34.T env h (.store t (.tmp a) (.tmp c))).ok false r []:=by
 simp only [z08,z0n,ha,z21,hh,y23.ok]
 exact ⟨r,hE,z68 r⟩
theorem w8l {env:List (Nat×AV)} {h:List AO} {new a c L j:Nat} {es:List (List D)} {x y:Int} (ha:z0r env a= .ptr L j 0) (hc:z0r env c= .d (.int .i64 x)) (hh:z0e h L= .row es):
  z0i std E34.T env h new false [.int .i64 y] [] (.store 3 (.tmp a) (.tmp c))=some ⟨true, .bot,[(L, .row (std.set es j [.int .i64 x]))]⟩:=by
 cases ht:E34.T 3 with
 |none=>have:=ty3; rw [ht] at this; cases this
 |some ti=>
  have h1:=ty3
  rw [ht] at h1
  simp only [Option.map_some,Option.some.injEq,Prod.mk.injEq] at h1
  obtain ⟨s,b,a',z,d,q⟩:=ti
  simp only at h1
  obtain ⟨rfl,rfl,rfl⟩:=h1
  simp only [z0i,ht,z0n,ha,hc,z2d,z1w,z1j,hh]
  rfl
theorem inB {j n:Nat} (h:j<n):(std.cmp .geq (j:Int) 0&&std.cmp .lss (j:Int) (std.ofNat n))=true:=by
 rw [y3k,z4d,Bool.and_eq_true]
 exact ⟨decide_eq_true (by omega),decide_eq_true (by show (j:Int)<(n:Int); omega)⟩
theorem w2y {env:List (Nat×AV)} {h:List AO} {t:TypeId} {a id j:Nat} {E:List (List AV)} {ra:List AV} (ha:z0r env a= .ptr id j 0) (hh:z0e h id= .arow E) (hE:E[j]?=some ra):(z08 std E34.T env h (.load t (.tmp a))).ok false [] ra:=by
 simp only [z08,z0n,ha,z5f,z21,hh,y23.ok,hE]
theorem w45 {N S:Int} {V:List (List D)} {n L i:Nat} (hi:i<n) {f:Nat→JM×JM} {h:List AO} (hf:x5p h 1 N n S V n f)
  {Q:AS→Prop} (hQ:Q ⟨(7, .d (.int .i64 (i:Int)))::(8, .bptr h.length 0)::y7k L n (i:Int),z0o (z0o h h.length (.box [.d .nilm, .d .nilm])) h.length (.box [.map (1+(2+4*i)), .map (1+(3+4*i))]),38⟩):
  z4m P34 0 (z2t 15 x9l) (List.range (z2t 15 x9l).size) ⟨y7k L n (i:Int),h,38⟩ (fun s=>∃ s',z2b 0 s s'∧Q s'):=by
 have hr:List.range (z2t 15 x9l).size=[0,1,2,3,4,5]:=by kernel_rfl
 obtain ⟨w0,o0⟩:=z03 (g:=15) (p:=x9l) (i:=0) (dst:=some 27) (op:= .move (.tmp 25)) (by kernel_rfl)
 obtain ⟨w1,o1⟩:=z03 (g:=15) (p:=x9l) (i:=1) (dst:=some 28) (op:= .indexAddr 64 (.tmp 23) (.tmp 25)) (by kernel_rfl)
 obtain ⟨w2,o2⟩:=z03 (g:=15) (p:=x9l) (i:=2) (dst:=some 29) (op:= .load 69 (.tmp 28)) (by kernel_rfl)
 obtain ⟨w3,o3⟩:=z03 (g:=15) (p:=x9l) (i:=3) (dst:=some 8) (op:= .alloc 69) (by kernel_rfl)
 obtain ⟨w4,o4⟩:=z03 (g:=15) (p:=x9l) (i:=4) (dst:=some 7) (op:= .assign (.tmp 27)) (by kernel_rfl)
 obtain ⟨w5,o5⟩:=z03 (g:=15) (p:=x9l) (i:=5) (dst:=none) (op:= .store 69 (.tmp 8) (.tmp 29)) (by kernel_rfl)
 have harr:=hf.arr (by omega)
 rw [hr]
 refine z3q o0 (q:=false) (r:=[]) (ra:=[]) (res:=⟨true, .d (.int .i64 (i:Int)),[]⟩) trivial rfl rfl rfl ?_
 refine z3q o1 (q:=false) (r:=[]) (ra:=[]) (res:=⟨std.cmp .geq (i:Int) 0&&std.cmp .lss (i:Int) (std.ofNat n), .ptr (1+(4*n+1)) i 0,[]⟩) trivial (u0d rfl rfl) (inB hi) rfl ?_
 refine z3q o2 (q:=false) (r:=[]) (ra:=[.map (1+(2+4*i)), .map (1+(3+4*i))]) (res:=⟨true, .agg [.map (1+(2+4*i)), .map (1+(3+4*i))],[]⟩) (w2y rfl harr (y87 hi)) (w52 rfl harr) rfl rfl ?_
 refine z3q o3 (q:=false) (r:=[]) (ra:=[]) (res:=⟨true, .bptr h.length 0,[(h.length, .box [.d .nilm, .d .nilm])]⟩) trivial x9d rfl rfl ?_
 refine z3q o4 (q:=false) (r:=[]) (ra:=[]) (res:=⟨true, .d (.int .i64 (i:Int)),[]⟩) trivial rfl rfl rfl ?_
 have hM:z0e (z0o h h.length (.box [.d .nilm, .d .nilm])) h.length= .box [.d .nilm, .d .nilm]:=z0b _ _ _
 refine z3q o5 (q:=false) (r:=[]) (ra:=[]) (res:=⟨true, .bot,[(h.length, .box [.map (1+(2+4*i)), .map (1+(3+4*i))])]⟩) (x12 rfl hM) (x59 rfl rfl hM) rfl rfl ?_
 refine z1t ⟨_,z2b.env (n:=0) (s:=⟨_,_,38⟩) (z04 fun x hx=>?_),hQ⟩
 simp only [y7k,List.mem_cons,List.not_mem_nil,or_false] at hx
 rcases hx with rfl|rfl|rfl|rfl|rfl|rfl<;>rfl
theorem w43 {n L i M x y:Nat} (hi:i<n) {m:JM} {es:List (List D)} {y0:Int} {h:List AO} (hM:z0e h M= .box [.map x, .map y]) (hy:z0e h y= .map (EJ.enc m)) (hL:z0e h L= .row es) (he:es[i]?=some [.int .i64 y0])
  {Q:AS→Prop} (hQ:Q ⟨y7k L n (i:Int),z0o h L (.row (es.set i [.int .i64 (m.length:Int)])),38⟩):
  z4m P34 0 (z2t 15 x5l) (List.range (z2t 15 x5l).size) ⟨(7, .d (.int .i64 (i:Int)))::(8, .bptr M 0)::y7k L n (i:Int),h,38⟩ (fun s=>∃ s',z2b 0 s s'∧Q s'):=by
 have hr:List.range (z2t 15 x5l).size=[0,1,2,3,4,5,6]:=by kernel_rfl
 obtain ⟨w0,o0⟩:=z03 (g:=15) (p:=x5l) (i:=0) (dst:=some 30) (op:= .move (.tmp 6)) (by kernel_rfl)
 obtain ⟨w1,o1⟩:=z03 (g:=15) (p:=x5l) (i:=1) (dst:=some 31) (op:= .move (.tmp 7)) (by kernel_rfl)
 obtain ⟨w2,o2⟩:=z03 (g:=15) (p:=x5l) (i:=2) (dst:=some 32) (op:= .fieldAddr 69 (.tmp 8) 1) (by kernel_rfl)
 obtain ⟨w3,o3⟩:=z03 (g:=15) (p:=x5l) (i:=3) (dst:=some 33) (op:= .load 67 (.tmp 32)) (by kernel_rfl)
 obtain ⟨w4,o4⟩:=z03 (g:=15) (p:=x5l) (i:=4) (dst:=some 34) (op:= .call ⟨.builtin .len,#[.tmp 33],#[67]⟩) (by kernel_rfl)
 obtain ⟨w5,o5⟩:=z03 (g:=15) (p:=x5l) (i:=5) (dst:=some 35) (op:= .indexAddr 26 (.tmp 30) (.tmp 31)) (by kernel_rfl)
 obtain ⟨w6,o6⟩:=z03 (g:=15) (p:=x5l) (i:=6) (dst:=none) (op:= .store 3 (.tmp 35) (.tmp 34)) (by kernel_rfl)
 rw [hr]
 refine z3q o0 (q:=false) (r:=[]) (ra:=[]) (res:=⟨true, .slice L 1 0 n (some n),[]⟩) trivial rfl rfl rfl ?_
 refine z3q o1 (q:=false) (r:=[]) (ra:=[]) (res:=⟨true, .d (.int .i64 (i:Int)),[]⟩) trivial rfl rfl rfl ?_
 refine z3q o2 (q:=false) (r:=[]) (ra:=[]) (res:=⟨true, .bptr M 1,[]⟩) trivial (by kernel_rfl) rfl rfl ?_
 refine z3q o3 (q:=false) (r:=[]) (ra:=[]) (res:=⟨true, .map y,[]⟩) (z2p rfl hM) (v5i rfl hM rfl) rfl rfl ?_
 refine z3q o4 (q:=false) (r:=[]) (ra:=[]) (res:=⟨true, .d (.int .i64 (m.length:Int)),[]⟩) (by exact trivial) (v99 rfl hy) rfl rfl ?_
 refine z3q o5 (q:=false) (r:=[]) (ra:=[]) (res:=⟨std.cmp .geq (i:Int) 0&&std.cmp .lss (i:Int) (std.ofNat n), .ptr L i 0,[]⟩) trivial (v6d rfl rfl) (inB hi) rfl ?_
 refine z3q o6 (q:=false) (r:=[.int .i64 y0]) (ra:=[]) (res:=⟨true, .bot,[(L, .row (std.set es i [.int .i64 (m.length:Int)]))]⟩) (w34 rfl hL he) (w8l rfl rfl hL) rfl rfl ?_
 exact z1t ⟨_,z2b.env (n:=0) (s:=⟨_,_,38⟩) (y32 rfl rfl rfl rfl),hQ⟩
end Go.Am
end
section
namespace Go.Am
open T11
def z6x (N J:Int) (v:Vt):Prop:=v.1<0∨v.1≥J∨v.2.1<0∨v.2.1≥N∨v.2.2<0∨v.2.2≥N∨v.2.1=v.2.2
instance (N J:Int) (v:Vt):Decidable (z6x N J v):=by unfold z6x; infer_instance
def x85 (N J S:Int):Prop:=N<1∨N>10∨J<1∨J>12∨S<0∨S>45
instance (N J S:Int):Decidable (x85 N J S):=by unfold x85; infer_instance
def z2x (N J S:Int) (l:List Vt):Int:=if 80<l.length then 6 else if x85 N J S then 2 else if ∃ v∈l,z6x N J v then 2 else 0
theorem x5b (N J S:Int) (l:List Vt) (hl:l.length≤1000) (i:Nat) (v:Vt) (hv:l[i]?=some v):
  y1q std (N,(J,(S,(z0k l,((i:Int),())))))=some (bif decide (z6x N J v) then .inr (.inl ((2:Int),())) else .inl (N,(J,(S,(z0k l,(((i+1:Nat):Int),())))))):=by
 have hi:=(List.getElem?_eq_some_iff.1 hv).1
 have hw:=z2j (i:=i) (by omega)
 have hlt:(i:Int)<l.length:=by omega
 have h0:(0:Int)≤i:=by omega
 have gv:=y20 hv
 have hel:=z1c l
 generalize z0k l=L at gv hel⊢
 by_cases c1:v.1<0
 ·have hb:z6x N J v:= .inl c1
  simp only [y1q,z14,z15,hel,hlt,h0,ge_iff_le,gv,z2g,z3v,z3u,z3t,c1,hb,z0g,hw,eq_self,not_true,not_false_eq_true,decide_true,decide_false,Bool.not_true,Bool.not_false,Int.reduceLT,Int.reduceLE,Int.reduceNeg,Int.reduceGT,cond_true,cond_false,Int.reduceEq,Nat.le_refl,Bool.and_true,List.drop_zero]
 by_cases c2:v.1≥J
 ·have hb:z6x N J v:= .inr (.inl c2)
  rw [ge_iff_le] at c2
  simp only [y1q,z14,z15,hel,hlt,h0,ge_iff_le,gv,z2g,z3v,z3u,z3t,c1,c2,hb,z0g,hw,eq_self,not_true,not_false_eq_true,decide_true,decide_false,Bool.not_true,Bool.not_false,Int.reduceLT,Int.reduceLE,Int.reduceNeg,Int.reduceGT,cond_true,cond_false,Int.reduceEq,Nat.le_refl,Bool.and_true,List.drop_zero]
 by_cases c3:v.2.1<0
 ·have hb:z6x N J v:= .inr (.inr (.inl c3))
  rw [ge_iff_le] at c2
  simp only [y1q,z14,z15,hel,hlt,h0,ge_iff_le,gv,z2g,z3v,z3u,z3t,c1,c2,c3,hb,z0g,hw,eq_self,not_true,not_false_eq_true,decide_true,decide_false,Bool.not_true,Bool.not_false,Int.reduceLT,Int.reduceLE,Int.reduceNeg,Int.reduceGT,cond_true,cond_false,Int.reduceEq,Nat.le_refl,Bool.and_true,List.drop_zero]
 by_cases c4:v.2.1≥N
 ·have hb:z6x N J v:= .inr (.inr (.inr (.inl c4)))
  rw [ge_iff_le] at c2 c4
  simp only [y1q,z14,z15,hel,hlt,h0,ge_iff_le,gv,z2g,z3v,z3u,z3t,c1,c2,c3,c4,hb,z0g,hw,eq_self,not_true,not_false_eq_true,decide_true,decide_false,Bool.not_true,Bool.not_false,Int.reduceLT,Int.reduceLE,Int.reduceNeg,Int.reduceGT,cond_true,cond_false,Int.reduceEq,Nat.le_refl,Bool.and_true,List.drop_zero]
 by_cases c5:v.2.2<0
 ·have hb:z6x N J v:= .inr (.inr (.inr (.inr (.inl c5))))
  rw [ge_iff_le] at c2 c4
  simp only [y1q,z14,z15,hel,hlt,h0,ge_iff_le,gv,z2g,z3v,z3u,z3t,c1,c2,c3,c4,c5,hb,z0g,hw,eq_self,not_true,not_false_eq_true,decide_true,decide_false,Bool.not_true,Bool.not_false,Int.reduceLT,Int.reduceLE,Int.reduceNeg,Int.reduceGT,cond_true,cond_false,Int.reduceEq,Nat.le_refl,Bool.and_true,List.drop_zero]
 by_cases c6:v.2.2≥N
 ·have hb:z6x N J v:= .inr (.inr (.inr (.inr (.inr (.inl c6)))))
  rw [ge_iff_le] at c2 c4 c6
  simp only [y1q,z14,z15,hel,hlt,h0,ge_iff_le,gv,z2g,z3v,z3u,z3t,c1,c2,c3,c4,c5,c6,hb,z0g,hw,eq_self,not_true,not_false_eq_true,decide_true,decide_false,Bool.not_true,Bool.not_false,Int.reduceLT,Int.reduceLE,Int.reduceNeg,Int.reduceGT,cond_true,cond_false,Int.reduceEq,Nat.le_refl,Bool.and_true,List.drop_zero]
 by_cases c7:v.2.1=v.2.2
 ·have hb:z6x N J v:= .inr (.inr (.inr (.inr (.inr (.inr c7)))))
  rw [ge_iff_le] at c2 c4 c6
  have c7':decide (v.2.1=v.2.2)=true:=decide_eq_true c7
  rw [c7] at c3 c4
  simp only [y1q,z14,z15,hel,hlt,h0,ge_iff_le,gv,z2g,z3v,z3u,z3t,c1,c2,c3,c4,c5,c6,c7,hb,z0g,hw,eq_self,not_true,not_false_eq_true,decide_true,decide_false,Bool.not_true,Bool.not_false,Int.reduceLT,Int.reduceLE,Int.reduceNeg,Int.reduceGT,cond_true,cond_false,Int.reduceEq,Nat.le_refl,Bool.and_true,List.drop_zero]
 have hb:¬ z6x N J v:=by unfold z6x; omega
 rw [ge_iff_le] at c2 c4 c6
 simp only [y1q,z14,z15,hel,hlt,h0,ge_iff_le,gv,z2g,z3v,z3u,z3t,c1,c2,c3,c4,c5,c6,c7,hb,z0g,hw,eq_self,not_true,not_false_eq_true,decide_true,decide_false,Bool.not_true,Bool.not_false,Int.reduceLT,Int.reduceLE,Int.reduceNeg,Int.reduceGT,cond_true,cond_false,Int.reduceEq,Nat.le_refl,Bool.and_true,List.drop_zero]
theorem x0l (N J S:Int) (l:List Vt):G20 std (N,(J,(S,(z0k l,()))))=some (z2x N J S l,()):=by
 unfold G20 z2x
 by_cases hm:80<l.length
 ·have hm':((l.length:Nat):Int)>80:=by omega
  simp only [g20,z14,z15,z1c,hm,hm',eq_self,not_true,not_false_eq_true,decide_true,decide_false,Bool.not_true,Bool.not_false,Int.reduceLT,Int.reduceLE,Int.reduceNeg,Int.reduceGT,cond_true,cond_false,Int.reduceEq,Nat.le_refl,Bool.and_true,List.drop_zero]
 have hm':¬ ((l.length:Nat):Int)>80:=by omega
 rw [if_neg hm]
 by_cases hB:x85 N J S
 ·rw [if_pos hB]
  have fin:∀ (o:Option (Int×(Int×(Int×(List (List D)×(Bool×Unit)))))),True:=fun _=>trivial
  by_cases c1:N<1
  ·simp only [g20,z14,z15,z1c,hm',c1,eq_self,not_true,not_false_eq_true,decide_true,decide_false,Bool.not_true,Bool.not_false,Int.reduceLT,Int.reduceLE,Int.reduceNeg,Int.reduceGT,cond_true,cond_false,Int.reduceEq,Nat.le_refl,Bool.and_true,List.drop_zero]
  by_cases c2:N>10
  ·simp only [g20,z14,z15,z1c,hm',c1,c2,eq_self,not_true,not_false_eq_true,decide_true,decide_false,Bool.not_true,Bool.not_false,Int.reduceLT,Int.reduceLE,Int.reduceNeg,Int.reduceGT,cond_true,cond_false,Int.reduceEq,Nat.le_refl,Bool.and_true,List.drop_zero]
  by_cases c3:J<1
  ·simp only [g20,z14,z15,z1c,hm',c1,c2,c3,eq_self,not_true,not_false_eq_true,decide_true,decide_false,Bool.not_true,Bool.not_false,Int.reduceLT,Int.reduceLE,Int.reduceNeg,Int.reduceGT,cond_true,cond_false,Int.reduceEq,Nat.le_refl,Bool.and_true,List.drop_zero]
  by_cases c4:J>12
  ·simp only [g20,z14,z15,z1c,hm',c1,c2,c3,c4,eq_self,not_true,not_false_eq_true,decide_true,decide_false,Bool.not_true,Bool.not_false,Int.reduceLT,Int.reduceLE,Int.reduceNeg,Int.reduceGT,cond_true,cond_false,Int.reduceEq,Nat.le_refl,Bool.and_true,List.drop_zero]
  by_cases c5:S<0
  ·simp only [g20,z14,z15,z1c,hm',c1,c2,c3,c4,c5,eq_self,not_true,not_false_eq_true,decide_true,decide_false,Bool.not_true,Bool.not_false,Int.reduceLT,Int.reduceLE,Int.reduceNeg,Int.reduceGT,cond_true,cond_false,Int.reduceEq,Nat.le_refl,Bool.and_true,List.drop_zero]
  by_cases c6:S>45
  ·simp only [g20,z14,z15,z1c,hm',c1,c2,c3,c4,c5,c6,eq_self,not_true,not_false_eq_true,decide_true,decide_false,Bool.not_true,Bool.not_false,Int.reduceLT,Int.reduceLE,Int.reduceNeg,Int.reduceGT,cond_true,cond_false,Int.reduceEq,Nat.le_refl,Bool.and_true,List.drop_zero]
  exact absurd hB (by unfold x85; omega)
 rw [if_neg hB]
 have d1:¬ N<1:=fun h=>hB (.inl h)
 have d2:¬ N>10:=fun h=>hB (.inr (.inl h))
 have d3:¬ J<1:=fun h=>hB (.inr (.inr (.inl h)))
 have d4:¬ J>12:=fun h=>hB (.inr (.inr (.inr (.inl h))))
 have d5:¬ S<0:=fun h=>hB (.inr (.inr (.inr (.inr (.inl h)))))
 have d6:¬ S>45:=fun h=>hB (.inr (.inr (.inr (.inr (.inr h)))))
 have key:=z7j (b:=y1q std) l.length (fun i=>(N,(J,(S,(z0k l,((i:Int),())))))) (fun i=>decide (z6x N J (l.getD i (0,0,0)))) (fun _=> .inl ((2:Int),())) (.inr ()) (fun i hi=>by
  obtain ⟨v,hv⟩:=z42 hi
  rw [z9r hv,x5b N J S l (by omega) i v hv]
  try (cases decide (z6x N J v)<;>rfl)) (by
  have hn:¬ (l.length:Int)<l.length:=by omega
  simp only [y1q,z14,z15,z1c,hn,eq_self,not_true,not_false_eq_true,decide_true,decide_false,Bool.not_true,Bool.not_false,Int.reduceLT,Int.reduceLE,Int.reduceNeg,Int.reduceGT,cond_true,cond_false,Int.reduceEq,Nat.le_refl,Bool.and_true,List.drop_zero])
 have e:∀ {r:(Int×Unit)⊕Unit},z8b (y1q std) (N,(J,(S,(z0k l,((0:Int),())))))=some r→g20 it0 std (N,(J,(S,(z0k l,()))))=some (match r with| .inl y=>y| .inr _=>((0:Int),())):=by
  intro r hr
  simp only [g20,it0,z14,z15,z1c,hm',d1,d2,d3,d4,d5,d6,hr,eq_self,not_true,not_false_eq_true,decide_true,decide_false,Bool.not_true,Bool.not_false,Int.reduceLT,Int.reduceLE,Int.reduceNeg,Int.reduceGT,cond_true,cond_false,Int.reduceEq,Nat.le_refl,Bool.and_true,List.drop_zero]
  rcases r with ⟨y,u⟩|u<;>rfl
 rcases key with ⟨i,h1,h2,_,h4⟩|⟨h1,h2⟩
 ·obtain ⟨v,hv⟩:=z42 (l:=l) (i:=i) (by omega)
  rw [z9r hv] at h2
  rw [e h4,if_pos ⟨v,List.mem_of_getElem? hv,of_decide_eq_true h2⟩]
 ·rw [e h2,if_neg]
  rintro ⟨v,hm2,hb⟩
  obtain ⟨i,hi⟩:=List.getElem?_of_mem hm2
  have:=h1 i (List.getElem?_eq_some_iff.1 hi).1
  rw [z9r hi,decide_eq_true hb] at this
  cases this
end Go.Am
end
section
namespace Go.Am
open T11
theorem in1 (lo hi x:Int):g52 it0 std (lo,(hi,([[.int .i64 x]],())))=some (decide (lo≤x∧x≤hi),()):=by
 have h:g52 it0 std (lo,(hi,(z1z [x],())))=_:=w3z lo hi [x] (by simp)
 have e:z1z [x]=[[.int .i64 x]]:=rfl
 rw [←e,h,Option.some.injEq,Prod.mk.injEq,decide_eq_decide]
 refine ⟨⟨fun hr=>?_,fun hr i hi=>?_⟩,rfl⟩
 ·have:=hr 0 (by simp)
  have e0:gI [x] 0=x:=rfl
  unfold y3w at this
  rw [e0] at this
  omega
 ·have:i=0:=by simp at hi; omega
  subst this
  have e0:gI [x] 0=x:=rfl
  unfold y3w
  rw [e0]
  omega
theorem in2 (lo hi x y:Int):g52 it0 std (lo,(hi,([[.int .i64 x],[.int .i64 y]],())))=some (decide ((lo≤x∧x≤hi)∧lo≤y∧y≤hi),()):=by
 have h:g52 it0 std (lo,(hi,(z1z [x,y],())))=_:=w3z lo hi [x,y] (by simp)
 have e:z1z [x,y]=[[.int .i64 x],[.int .i64 y]]:=rfl
 rw [←e,h,Option.some.injEq,Prod.mk.injEq,decide_eq_decide]
 have e0:gI [x,y] 0=x:=rfl
 have e1:gI [x,y] 1=y:=rfl
 refine ⟨⟨fun hr=>?_,fun hr i hi=>?_⟩,rfl⟩
 ·have h0:=hr 0 (by simp)
  have h1:=hr 1 (by simp)
  unfold y3w at h0 h1
  rw [e0] at h0
  rw [e1] at h1
  omega
 ·have hi:i<2:=by simpa using hi
  have hs:i=0∨i=1:=by omega
  unfold y3w
  rcases hs with rfl|rfl
  ·rw [e0]; omega
  ·rw [e1]; omega
theorem x49 {N J:Int} (S:Int) (hN:1≤N∧N≤10) (hJ:1≤J∧J≤12) (l:List Vt) (hl:l.length≤1000) (i:Nat) (v:Vt) (hv:l[i]?=some v):
  y48 it0 std (N,(J,(S,(z0k l,(z0k l,((l.length:Int),((i:Int),())))))))=some (bif decide (z6x N J v) then .inr (.inl (N,(J,(S,(z0k l,((i:Int),())))))) else .inl (N,(J,(S,(z0k l,(z0k l,((l.length:Int),(((i+1:Nat):Int),())))))))):=by
 have hi:=(List.getElem?_eq_some_iff.1 hv).1
 have hw:=z2j (i:=i) (by omega)
 have hlt:(i:Int)<l.length:=by omega
 have h0:(0:Int)≤i:=by omega
 have gv:=y20 hv
 have wN:IntKind.i64.wrap (N - 1)=N - 1:=x11 _ (by omega) (by omega)
 have wJ:IntKind.i64.wrap (J - 1)=J - 1:=x11 _ (by omega) (by omega)
 generalize z0k l=L at gv⊢
 by_cases c1:0≤v.1∧v.1≤J - 1
 ·by_cases c2:(0≤v.2.1∧v.2.1≤N - 1)∧0≤v.2.2∧v.2.2≤N - 1
  ·by_cases c3:v.2.1=v.2.2
   ·have hb:z6x N J v:= .inr (.inr (.inr (.inr (.inr (.inr c3)))))
    have c3':decide (v.2.1=v.2.2)=true:=decide_eq_true c3
    have h1:=in1 0 (J - 1) v.1
    have h2:=in2 0 (N - 1) v.2.1 v.2.2
    rw [decide_eq_true c1] at h1
    rw [decide_eq_true c2] at h2
    simp only [y48,z14,z15,hlt,h0,ge_iff_le,gv,z2g,z3v,z3u,z3t,h1,h2,c3',hb,z85,z0g,wN,wJ,hw,eq_self,not_true,not_false_eq_true,decide_true,decide_false,Bool.not_true,Bool.not_false,Int.reduceLT,Int.reduceLE,Int.reduceNeg,Int.reduceGT,cond_true,cond_false,Int.reduceEq,Nat.le_refl,Bool.and_true,List.drop_zero]
   ·have hb:¬ z6x N J v:=by unfold z6x; omega
    have c3':decide (v.2.1=v.2.2)=false:=decide_eq_false c3
    have h1:=in1 0 (J - 1) v.1
    have h2:=in2 0 (N - 1) v.2.1 v.2.2
    rw [decide_eq_true c1] at h1
    rw [decide_eq_true c2] at h2
    simp only [y48,z14,z15,hlt,h0,ge_iff_le,gv,z2g,z3v,z3u,z3t,h1,h2,c3',hb,z85,z0g,wN,wJ,hw,eq_self,not_true,not_false_eq_true,decide_true,decide_false,Bool.not_true,Bool.not_false,Int.reduceLT,Int.reduceLE,Int.reduceNeg,Int.reduceGT,cond_true,cond_false,Int.reduceEq,Nat.le_refl,Bool.and_true,List.drop_zero]
  ·have hb:z6x N J v:=by unfold z6x; omega
   have h1:=in1 0 (J - 1) v.1
   have h2:=in2 0 (N - 1) v.2.1 v.2.2
   rw [decide_eq_true c1] at h1
   rw [decide_eq_false c2] at h2
   simp only [y48,z14,z15,hlt,h0,ge_iff_le,gv,z2g,z3v,z3u,z3t,h1,h2,hb,z85,z0g,wN,wJ,hw,eq_self,not_true,not_false_eq_true,decide_true,decide_false,Bool.not_true,Bool.not_false,Int.reduceLT,Int.reduceLE,Int.reduceNeg,Int.reduceGT,cond_true,cond_false,Int.reduceEq,Nat.le_refl,Bool.and_true,List.drop_zero]
 ·have hb:z6x N J v:=by unfold z6x; omega
  have h1:=in1 0 (J - 1) v.1
  rw [decide_eq_false c1] at h1
  simp only [y48,z14,z15,hlt,h0,ge_iff_le,gv,z2g,z3v,z3u,z3t,h1,hb,z85,z0g,wN,wJ,hw,eq_self,not_true,not_false_eq_true,decide_true,decide_false,Bool.not_true,Bool.not_false,Int.reduceLT,Int.reduceLE,Int.reduceNeg,Int.reduceGT,cond_true,cond_false,Int.reduceEq,Nat.le_refl,Bool.and_true,List.drop_zero]
theorem x0m (N J S:Int) (l:List Vt):G19 std (N,(J,(S,(z0k l,()))))=some (z2x N J S l,()):=by
 unfold G19 z2x
 by_cases hm:80<l.length
 ·have hm':((l.length:Nat):Int)>80:=by omega
  simp only [g19,z14,z15,z1c,hm,hm',eq_self,not_true,not_false_eq_true,decide_true,decide_false,Bool.not_true,Bool.not_false,Int.reduceLT,Int.reduceLE,Int.reduceNeg,Int.reduceGT,cond_true,cond_false,Int.reduceEq,Nat.le_refl,Bool.and_true,List.drop_zero]
 have hm':¬ ((l.length:Nat):Int)>80:=by omega
 rw [if_neg hm]
 have i1:=in1 1 10 N
 have i2:=in1 1 12 J
 have i3:=in1 0 45 S
 by_cases d1:1≤N∧N≤10
 rotate_left
 ·rw [decide_eq_false d1] at i1
  rw [if_pos (by unfold x85; omega)]
  simp only [g19,z14,z15,z1c,hm',i1,eq_self,not_true,not_false_eq_true,decide_true,decide_false,Bool.not_true,Bool.not_false,Int.reduceLT,Int.reduceLE,Int.reduceNeg,Int.reduceGT,cond_true,cond_false,Int.reduceEq,Nat.le_refl,Bool.and_true,List.drop_zero]
 rw [decide_eq_true d1] at i1
 by_cases d2:1≤J∧J≤12
 rotate_left
 ·rw [decide_eq_false d2] at i2
  rw [if_pos (by unfold x85; omega)]
  simp only [g19,z14,z15,z1c,hm',i1,i2,eq_self,not_true,not_false_eq_true,decide_true,decide_false,Bool.not_true,Bool.not_false,Int.reduceLT,Int.reduceLE,Int.reduceNeg,Int.reduceGT,cond_true,cond_false,Int.reduceEq,Nat.le_refl,Bool.and_true,List.drop_zero]
 rw [decide_eq_true d2] at i2
 by_cases d3:0≤S∧S≤45
 rotate_left
 ·rw [decide_eq_false d3] at i3
  rw [if_pos (by unfold x85; omega)]
  simp only [g19,z14,z15,z1c,hm',i1,i2,i3,eq_self,not_true,not_false_eq_true,decide_true,decide_false,Bool.not_true,Bool.not_false,Int.reduceLT,Int.reduceLE,Int.reduceNeg,Int.reduceGT,cond_true,cond_false,Int.reduceEq,Nat.le_refl,Bool.and_true,List.drop_zero]
 rw [decide_eq_true d3] at i3
 rw [if_neg (by unfold x85; omega)]
 have key:=z7j (b:=y48 it0 std) l.length (fun i=>(N,(J,(S,(z0k l,(z0k l,((l.length:Int),((i:Int),())))))))) (fun i=>decide (z6x N J (l.getD i (0,0,0)))) (fun i=> .inl (N,(J,(S,(z0k l,((i:Int),())))))) (.inr (N,(J,(S,(z0k l,()))))) (fun i hi=>by
  obtain ⟨v,hv⟩:=z42 hi
  rw [z9r hv,x49 S d1 d2 l (by omega) i v hv]
  try (cases decide (z6x N J v)<;>rfl)) (by
  have hn:¬ (l.length:Int)<l.length:=by omega
  simp only [y48,z14,z15,z1c,hn,eq_self,not_true,not_false_eq_true,decide_true,decide_false,Bool.not_true,Bool.not_false,Int.reduceLT,Int.reduceLE,Int.reduceNeg,Int.reduceGT,cond_true,cond_false,Int.reduceEq,Nat.le_refl,Bool.and_true,List.drop_zero])
 rcases key with ⟨i,h1,h2,_,h4⟩|⟨h1,h2⟩
 ·obtain ⟨v,hv⟩:=z42 (l:=l) (i:=i) (by omega)
  rw [z9r hv] at h2
  rw [if_pos ⟨v,List.mem_of_getElem? hv,of_decide_eq_true h2⟩]
  have h4:it0 _ _ (y48 it0 std) (N,(J,(S,(z0k l,(z0k l,((l.length:Int),((0:Int),())))))))=_:=h4
  have hi0:(i:Int)≥0:=by omega
  simp only [g19,z14,z15,z1c,hm',i1,i2,i3,h4,hi0,eq_self,not_true,not_false_eq_true,decide_true,decide_false,Bool.not_true,Bool.not_false,Int.reduceLT,Int.reduceLE,Int.reduceNeg,Int.reduceGT,cond_true,cond_false,Int.reduceEq,Nat.le_refl,Bool.and_true,List.drop_zero]
 ·rw [if_neg]
  ·have h2:it0 _ _ (y48 it0 std) (N,(J,(S,(z0k l,(z0k l,((l.length:Int),((0:Int),())))))))=_:=h2
   simp only [g19,z14,z15,z1c,hm',i1,i2,i3,h2,eq_self,not_true,not_false_eq_true,decide_true,decide_false,Bool.not_true,Bool.not_false,Int.reduceLT,Int.reduceLE,Int.reduceNeg,Int.reduceGT,cond_true,cond_false,Int.reduceEq,Nat.le_refl,Bool.and_true,List.drop_zero]
   try decide
  ·rintro ⟨v,hm2,hb⟩
   obtain ⟨i,hi⟩:=List.getElem?_of_mem hm2
   have:=h1 i (List.getElem?_eq_some_iff.1 hi).1
   rw [z9r hi,decide_eq_true hb] at this
   cases this
end Go.Am
end
section
namespace Go.Am
open T11
structure v9d (w:List Int) (n:Nat) (f:Nat→Nat→Bool) (l:List Int) (cur:List Nat):Prop where
 len:l.length=n
 nd:cur.Nodup
 lt:∀ x∈cur,x<n
 sup:∀ a b,f a b=true→a<n∧b<n
 irr:∀ a,f a a=false
 cnt:∀ x,x<n→(cnt n (f x):Int)+(if x∈cur then gI l x else 0)=gI w x
 lan:Lan (cur.map fun x=>gI l x)
 both:∀ a b,a∈cur→b∈cur→f a b=false
 one:∀ a b,a<n→b<n→a≠b→¬ (a∈cur∧b∈cur)→f a b=!f b a
def z8h (l:List Int) (rest0:List Nat):List Nat:=(y63 (key l) (toI rest0)).map Int.toNat
theorem x6t (l:List Int) (rest0:List Nat):y63 (key l) (toI rest0)=toI (z8h l rest0):=by
 have hp:=y5i (key l) (toI rest0)
 rw [z8h]
 have hge:∀ x∈y63 (key l) (toI rest0),∃ i:Nat,x=(i:Int):=fun x hx=>by
  have:=hp.mem_iff.1 hx
  rw [toI,List.mem_map] at this
  obtain ⟨i,_,rfl⟩:=this
  exact ⟨i,rfl⟩
 generalize y63 (key l) (toI rest0)=S at hge⊢
 rw [toI,List.map_map]
 refine (List.map_id _).symm.trans (List.map_congr_left fun x hx=>?_)
 obtain ⟨i,rfl⟩:=hge x hx
 simp
theorem x4b (l:List Int) (rest0:List Nat):(z8h l rest0).Perm rest0:=by
 have hp:=(y5i (key l) (toI rest0)).map Int.toNat
 have e:(toI rest0).map Int.toNat=rest0:=by
  rw [toI,List.map_map]
  exact (List.map_congr_left fun a _=>by simp).trans (List.map_id _)
 rw [e] at hp
 exact hp
theorem w0f (l:List Int) (rest0:List Nat):((z8h l rest0).map fun x=>gI l x).Pairwise (· ≤ ·):=by
 have hpw:=x95 (key l) (toI rest0)
 rw [x6t,toI,List.pairwise_map] at hpw
 rw [List.pairwise_map]
 exact hpw.imp fun {a b} hab=>by
  simp only [key,Int.toNat_natCast] at hab
  exact hab
theorem w5v {l:List Nat} {g h:Nat→Int} {v:Nat} (hh:∀ q,q<l.length→h (at_ l q)=if v≤q then g (at_ l q) - 1 else g (at_ l q)):
  l.map h=(l.map g).take v++((l.map g).drop v).map (· - 1):=by
 apply List.ext_getElem?
 intro q
 rw [List.getElem?_append,List.length_take,List.length_map]
 by_cases hq:q<l.length
 ·have hx:l[q]?=some (at_ l q):=by rw [at_,List.getD_eq_getElem?_getD,List.getElem?_eq_getElem hq]; rfl
  rw [List.getElem?_map,hx,Option.map_some,hh q hq]
  by_cases c:v≤q
  ·rw [if_pos c,if_neg (by omega),List.getElem?_map,List.getElem?_drop,show v+(q - min v l.length)=q by omega,List.getElem?_map,hx]; rfl
  ·rw [if_neg c,if_pos (by omega),List.getElem?_take_of_lt (by omega),List.getElem?_map,hx]; rfl
 ·rw [List.getElem?_eq_none (by simp; omega)]
  by_cases c:q<min v l.length
  ·omega
  ·rw [if_neg c,List.getElem?_eq_none (by simp; omega)]
theorem v9d.step {w:List Int} {n s:Nat} {f:Nat→Nat→Bool} {l:List Int} {rest0:List Nat} (h:v9d w n f l (s::rest0)):
  v9d w n (stG s (gI l s).toNat (z8h l rest0) (f,l) (z8h l rest0).length).1 (stG s (gI l s).toNat (z8h l rest0) (f,l) (z8h l rest0).length).2 (z8h l rest0)∧(gI l s).toNat≤(z8h l rest0).length∧0≤gI l s:=by
 have hp:=x4b l rest0
 have hpw:=w0f l rest0
 have hnd:=List.nodup_cons.1 h.nd
 have hsn:=h.lt s (List.mem_cons_self ..)
 have hsr:s∉z8h l rest0:=fun hm=>hnd.1 (hp.mem_iff.1 hm)
 have hrn:(z8h l rest0).Nodup:=hp.nodup_iff.2 hnd.2
 have hrl:∀ x∈z8h l rest0,x<n:=fun x hx=>h.lt x (List.mem_cons_of_mem _ (hp.mem_iff.1 hx))
 have hlan:Lan (gI l s::(z8h l rest0).map fun x=>gI l x):=by
  have:=h.lan
  rw [List.map_cons] at this
  exact this.perm ((hp.symm.map _).cons _)
 obtain ⟨v0,v1,v2⟩:=hlan.step hpw
 rw [List.length_map] at v1
 have hv:(gI l s).toNat≤(z8h l rest0).length:=by omega
 refine ⟨?_,hv,v0⟩
 have hst:=w8m (f0:=f) (l0:=l) (v:=(gI l s).toNat) hsn hsr hrn hrl h.len h.sup (fun x hx=>by
  have hx':=List.mem_cons_of_mem s (hp.mem_iff.1 hx)
  exact ⟨h.both s x (List.mem_cons_self ..) hx',h.both x s hx' (List.mem_cons_self ..)⟩) (z8h l rest0).length (Nat.le_refl _)
 generalize hrr:z8h l rest0=rest at*
 generalize (stG s (gI l s).toNat rest (f,l) rest.length).1=f' at hst⊢
 generalize (stG s (gI l s).toNat rest (f,l) rest.length).2=l' at hst⊢
 have hmem:∀ x,x∈s::rest0↔x=s∨x∈rest:=fun x=>by rw [List.mem_cons,hp.mem_iff]
 have hleft:∀ q,q<rest.length→gI l' (at_ rest q)=if (gI l s).toNat≤q then gI l (at_ rest q) - 1 else gI l (at_ rest q):=by
  intro q hq
  rw [hst.left _ (hrl _ (x0d hq))]
  by_cases c:(gI l s).toNat≤q
  ·rw [if_pos c,if_pos ⟨q,List.mem_range.2 hq,c,rfl⟩]
  ·rw [if_neg c,if_neg]
   rintro ⟨r,hr,h1,h2⟩
   have:=x3r hrn (List.mem_range.1 hr) hq h2
   omega
 have hstay:∀ x,x<n→x∉rest→gI l' x=gI l x:=by
  intro x hx hnx
  rw [hst.left x hx,if_neg]
  rintro ⟨r,hr,_,h2⟩
  exact hnx (h2▸x0d (List.mem_range.1 hr))
 refine ⟨hst.len,hrn,hrl,hst.sup,fun a=>?_,fun x hx=>?_,?_,fun a b ha hb=>?_,fun a b ha hb hne hno=>?_⟩
 ·rw [hst.same a a,h.irr a]
  ·by_cases e:a=s
   ·subst e; exact .inr hsr
   ·exact .inl e
  ·by_cases e:a=s
   ·subst e; exact .inr hsr
   ·exact .inl e
 ·by_cases e:x=s
  ·subst e
   have h1:=h.cnt x hx
   rw [if_pos (List.mem_cons_self ..)] at h1
   rw [if_neg hsr,hst.own]
   omega
  ·have h1:=h.cnt x hx
   have h2:=hst.oth x hx e
   by_cases c:x∈rest
   ·rw [if_pos ((hmem x).2 (.inr c))] at h1
    rw [if_pos c]; omega
   ·rw [if_neg (fun hm=>by rcases (hmem x).1 hm with hm|hm; exact e hm; exact c hm)] at h1
    have h3:=hstay x hx c
    rw [if_neg c]; omega
 ·rw [w5v hleft]; exact v2
 ·have ha':a≠s:=fun e=>hsr (e▸ha)
  have hb':b≠s:=fun e=>hsr (e▸hb)
  rw [hst.same a b (.inl ha') (.inl hb')]
  exact h.both a b ((hmem a).2 (.inr ha)) ((hmem b).2 (.inr hb))
 ·by_cases ea:a=s
  ·subst ea
   by_cases cb:b∈rest
   ·obtain ⟨q,hq,rfl⟩:=v2s cb
    obtain ⟨d1,d2⟩:=hst.done q hq
    rw [d1,d2]
    by_cases c:q<(gI l a).toNat
    ·rw [decide_eq_true ⟨hq,c⟩,decide_eq_false (by omega)]; rfl
    ·rw [decide_eq_false (by omega),decide_eq_true ⟨hq,by omega⟩]; rfl
   ·rw [hst.same a b (.inr cb) (.inl (Ne.symm hne)),hst.same b a (.inl (Ne.symm hne)) (.inr cb)]
    refine h.one a b ha hb hne fun hm=>?_
    rcases (hmem b).1 hm.2 with e|e
    ·exact hne e.symm
    ·exact cb e
  ·by_cases eb:b=s
   ·subst eb
    by_cases ca:a∈rest
    ·obtain ⟨q,hq,rfl⟩:=v2s ca
     obtain ⟨d1,d2⟩:=hst.done q hq
     rw [d1,d2]
     by_cases c:q<(gI l b).toNat
     ·rw [decide_eq_false (by omega),decide_eq_true ⟨hq,c⟩]; rfl
     ·rw [decide_eq_true ⟨hq,by omega⟩,decide_eq_false (by omega)]; rfl
    ·rw [hst.same a b (.inl ea) (.inr ca),hst.same b a (.inr ca) (.inl ea)]
     refine h.one a b ha hb hne fun hm=>?_
     rcases (hmem a).1 hm.1 with e|e
     ·exact ea e
     ·exact ca e
   ·rw [hst.same a b (.inl ea) (.inl eb),hst.same b a (.inl eb) (.inl ea)]
    refine h.one a b ha hb hne fun hm=>hno ⟨?_,?_⟩
    ·rcases (hmem a).1 hm.1 with e|e
     ·exact absurd e ea
     ·exact e
    ·rcases (hmem b).1 hm.2 with e|e
     ·exact absurd e eb
     ·exact e
end Go.Am
end
section
namespace Go.Am
open Go.Proofs Go.Shelf
structure x9h (P:Program) (f:FuncId) (t:TypeId):Prop where
 shift:∀ (b off n c i vb voff vc:Nat) (cs:List Value) (v:Value) (w:World),i<n→n+1≤c→n+1≤9223372036854775807→vb≠b→cs.length=n→
  (∀ j v,cs[j]?=some v→w.cell? ⟨b,off+j,none⟩=some v)→(∀ j,j<n+1→(w.cell? ⟨b,off+j,none⟩).isSome=true)→(∀ j,j<n+1→w.frozen? ⟨b,off+j,none⟩=false)→
  w.cell? ⟨vb,voff,none⟩=some v→(∀ v∈cs,v.oneCell'=true)→v.oneCell'=true→
  (∀ x,w.frozen? ⟨vb,x,none⟩=false)→(∃ tA kA,w.shape? vb=some (tA,kA))→(∃ tB kB,w.shape? b=some (tB,kB)∧kB≠0)→
  Calls P f #[.slice (some ⟨b,off,none⟩) n c, .int .i64 i, .slice (some ⟨vb,voff,none⟩) 1 vc] w fun e w'=>
   e= .returned (.slice (some ⟨b,off,none⟩) (n+1) c)∧w'=(w.drew.setCells b (off+(i+1)) (cs.drop i)).setCells b (off+i) [v]
 room:∀ (b off n c vb voff vc:Nat) (v:Value) (w:World),n+1≤c→n+1≤9223372036854775807→(w.cell? ⟨b,off+n,none⟩).isSome=true→w.frozen? ⟨b,off+n,none⟩=false→
  w.cell? ⟨vb,voff,none⟩=some v→v.oneCell'=true→
  Calls P f #[.slice (some ⟨b,off,none⟩) n c, .int .i64 n, .slice (some ⟨vb,voff,none⟩) 1 vc] w fun e w'=>
   e= .returned (.slice (some ⟨b,off,none⟩) (n+1) c)∧w'=w.setCells b (off+n) [v]
 last:∀ (base:Option Addr) (n c vb voff vc:Nat) (cs:List Value) (v:Value) (w:World),n≤c→c<n+1→(n+1)*8≤140737488355328→cs.length=n→(base=none→n=0)→
  (∀ a,base=some a→∀ j v,cs[j]?=some v→w.cell? (a.add j)=some v)→w.cell? ⟨vb,voff,none⟩=some v→v.oneCell'=true→
  Calls P f #[.slice base n c, .int .i64 n, .slice (some ⟨vb,voff,none⟩) 1 vc] w fun e w'=>
   e= .returned (.slice (some ⟨w.heap.size,0,none⟩) (n+1) (grownCap w (n+1) c t))∧
   w'=w.drew.alloc (.cells ((cs++[v]).toArray++Builtin.zeroCells (Value.int .i64 0).cells (grownCap w (n+1) c t - (n+1))) t)
 grow:∀ (b off n c i vb voff vc:Nat) (cs:List Value) (v:Value) (w:World),i<n→n≤c→c<n+1→(n+1)*8≤140737488355328→cs.length=n→
  (∀ j v,cs[j]?=some v→w.cell? ⟨b,off+j,none⟩=some v)→w.cell? ⟨vb,voff,none⟩=some v→(∀ v∈cs,v.oneCell'=true)→v.oneCell'=true→
  Calls P f #[.slice (some ⟨b,off,none⟩) n c, .int .i64 i, .slice (some ⟨vb,voff,none⟩) 1 vc] w fun e w'=>
   e= .returned (.slice (some ⟨w.heap.size,0,none⟩) (n+1) (grownCap w (n+1) c t))∧
   w'=(((w.alloc (.cells ((cs.take i).toArray++Builtin.zeroCells (Value.int .i64 0).cells (n+1 - i)++Builtin.zeroCells (Value.int .i64 0).cells (grownCap w (n+1) c t - (n+1))) t)).drew.setCells w.heap.size i [v]).drew).setCells w.heap.size (i+1) (cs.drop i)
 cap:∀ (w:World) (n c:Nat),c<n→n≤1000001→n≤grownCap w n c t
theorem y0n (w:World) (b:Nat) (x y:Obj):World.setObj (World.setObj w b x) b y=World.setObj w b y:=by
 unfold World.setObj
 congr 1
 apply Array.ext_getElem?
 intro i
 simp only [Array.getElem?_setIfInBounds,Array.size_setIfInBounds]
 by_cases h:b=i
 ·subst h; simp
 ·simp [h]
theorem z4b (b:Nat) (t:TypeId):∀ (vs:List Value) (o:Nat) (w:World) (c:Array Value),w.heap[b]?=some (.cells c t (0,0))→o+vs.length≤c.size→
  ∃ c':Array Value,c'.size=c.size∧(∀ j,c'[j]?=if o≤j∧j<o+vs.length then vs[j - o]? else c[j]?)∧w.setCells b o vs=World.setObj w b (.cells c' t (0,0))
 |[],o,w,c,h,hl=>by
  refine ⟨c,rfl,fun j=>by simp; omega,?_⟩
  simp only [World.setCells,World.setObj]
  have hlt:b<w.heap.size:=(Array.getElem?_eq_some_iff.1 h).1
  have:w.heap.setIfInBounds b (.cells c t (0,0))=w.heap:=by
   apply Array.ext_getElem?
   intro i
   rw [Array.getElem?_setIfInBounds]
   by_cases hi:b=i
   ·subst hi; rw [h]; simp [hlt]
   ·simp [hi]
  rw [this]
 |v::vs,o,w,c,h,hl=>by
  have hlt:b<w.heap.size:=(Array.getElem?_eq_some_iff.1 h).1
  have h1:w.setCell ⟨b,o,none⟩ v=World.setObj w b (.cells (c.setIfInBounds o v) t (0,0)):=by
   unfold World.setCell World.setObj
   congr 1
   apply Array.ext_getElem?
   intro i
   rw [Array.getElem?_modify,Array.getElem?_setIfInBounds]
   by_cases hi:b=i
   ·subst hi; rw [h]; simp [hlt]
   ·simp [hi]
  simp only [List.length_cons] at hl
  obtain ⟨c',a1,a2,a3⟩:=z4b b t vs (o+1) (World.setObj w b (.cells (c.setIfInBounds o v) t (0,0))) (c.setIfInBounds o v) (z0s _ _ _ hlt) (by simp; omega)
  refine ⟨c',by rw [a1]; simp,fun j=>?_,by rw [World.setCells,h1,a3,y0n]⟩
  rw [a2 j]
  by_cases hj:o+1≤j∧j<o+1+vs.length
  ·rw [if_pos hj,if_pos (by simp; omega)]
   rw [show j - o=(j - (o+1))+1 by omega]; rfl
  ·rw [if_neg hj,Array.getElem?_setIfInBounds]
   by_cases he:o=j
   ·subst he
    rw [if_pos rfl,if_pos (by omega),if_pos (by simp)]; simp
   ·rw [if_neg he,if_neg (by simp; omega)]
section
variable {P:Program}
theorem y2v {es:List (List D)} {x:D} {i:Nat} (hi:i≤es.length) (k:Nat):(es.take i++[x]::es.drop i)[k]?=if k<i then es[k]? else if k=i then some [x] else es[k - 1]?:=by
 rw [List.getElem?_append]
 have hl:(es.take i).length=i:=by simp; omega
 rw [hl]
 by_cases h1:k<i
 ·rw [if_pos h1,if_pos h1,List.getElem?_take,if_pos h1]
 ·rw [if_neg h1,if_neg h1]
  by_cases h2:k=i
  ·subst h2; simp
  ·rw [if_neg h2,show k - i=(k - i - 1)+1 by omega,List.getElem?_cons_succ,List.getElem?_drop]
   congr 1; omega
theorem w1c {f:FuncId} {t:TypeId} (hS:x9h P f t) {es:List (List D)} {x:D} {i:Nat} (hi:i≤es.length) (hn:es.length≤1000000):
  z6e P f [.slice 0 1 0 es.length none, .d (.int .i64 i), .slice 1 1 0 1 (some 1)] [.row es, .row [[x]]] (.slice 2 1 0 (es.length+1) none) [.dead, .row [[x]], .row (es.take i++[x]::es.drop i)]:=⟨by
 intro ρ vs w cs0 hr hdm har
 obtain ⟨hv1,hv2⟩:=har
 have hs1:vs.size=3:=hv1
 have hnew:ρ 2=none:=by
  cases hq:ρ 2 with
  |none=>rfl
  |some L=>have:=hdm 2 (by rw [hq]; simp); simp at this
 obtain ⟨L1,vc,hL1,hz1,hvs2⟩:∃ L vc,ρ 1=some L∧L.esz=1∧vs.getD 2 undef= .slice (some ⟨L.blk,L.base,none⟩) 1 vc:=by
  have hv:=hv2 2 _ rfl
  generalize hq:vs.getD 2 undef=q at hv
  cases hv with
  |slice _ _ _ _ _ L a c h1 h2 h3 h4 h5=>
   refine ⟨L,c,h1,h2,?_⟩
   rw [h3 (by omega)]; simp
 have hvs1:vs.getD 1 undef= .int .i64 i:=by
  have hv:=hv2 1 _ rfl
  generalize hq:vs.getD 1 undef=q at hv
  cases hv with|d hv=>cases hv; rfl
 obtain ⟨hlt1,ho1⟩:=hr.obj 1 L1 hL1
 obtain ⟨_,c1,t1,hcb1,_,hcell1⟩:=(show z16 P ρ _ w L1 (.row [[x]]) from ho1)
 obtain ⟨v,hv,hvone,hvrel⟩:=hcell1 0 [x] 0 x rfl rfl
 rw [hz1] at hv
 simp only [Nat.zero_mul,Nat.add_zero] at hv
 have hvc:w.cell? ⟨L1.blk,L1.base,none⟩=some v:=z8w hcb1 hv
 have hargs:∀ q,vs.getD 0 undef=q→vs=#[q, .int .i64 i, .slice (some ⟨L1.blk,L1.base,none⟩) 1 vc]:=by
  intro q hq
  apply Array.ext (by simpa using hs1)
  intro k h1 h2
  simp only [Array.getD_eq_getD_getElem?] at hq hvs1 hvs2
  match k,h1,h2 with
  |0,h1,h2=>rw [Array.getElem?_eq_getElem h1] at hq; simpa using hq
  |1,h1,h2=>rw [Array.getElem?_eq_getElem h1] at hvs1; simpa using hvs1
  |2,h1,h2=>rw [Array.getElem?_eq_getElem h1] at hvs2; simpa using hvs2
  |k+3,h1,h2=>simp at h2; omega
 have grown:∀ (c:Nat) (cs:List Value) (cells:Array Value) (d nc:Nat),cs.length=es.length→(∀ (k:Nat) (r:List D),es[k]?=some r→∃ y u,r=[y]∧cs[k]?=some u∧u.oneCell'=true∧z13 (z0j ρ [.row es, .row [[x]]]) w y u)→
   z0x w.drawn d→es.length+1≤nc→(∀ k,k<es.length+1→cells[k]?=if k<i then cs[k]? else if k=i then some v else cs[k - 1]?)→cells.size=nc→
   ∀ fr,Comes P (lone (Frame.enter P f vs .normal) cs0 w) (lone fr cs0 { World.push w (.cells cells t) with drawn:=d }) (.returned (.slice (some ⟨w.heap.size,0,none⟩) (es.length+1) nc))→fr.fn=f→fr.leaving P { World.push w (.cells cells t) with drawn:=d } (.returned (.slice (some ⟨w.heap.size,0,none⟩) (es.length+1) nc))→
   ∃ ρ' v w' fr,Steps P (lone (Frame.enter P f vs .normal) cs0 w) (lone fr cs0 w')∧fr.fn=f∧fr.leaving P w' (.returned v)∧z0w ρ' (z0j ρ' [.dead, .row [[x]], .row (es.take i++[x]::es.drop i)]) w' (.slice 2 1 0 (es.length+1) none) v∧
    z0d P ρ' [.dead, .row [[x]], .row (es.take i++[x]::es.drop i)] w'∧Dom ρ' [.dead, .row [[x]], .row (es.take i++[x]::es.drop i)]∧Ext (· <2) ρ [.row es, .row [[x]]] w ρ' [.dead, .row [[x]], .row (es.take i++[x]::es.drop i)] w':=by
  intro c cs cells d nc hcs hrows hd hnc hcells hsz fr h1 h2 h3
  have hr0:=hr.kill 0
  have hx0:=Ext.kill (· <2) ρ [.row es, .row [[x]]] w 0
  have hk0:=hx0.keep
  have hkp:=z52 hr0 hnew ⟨w.heap.size,0,1⟩ (.row (es.take i++[x]::es.drop i)) (.cells cells t) rfl
  have hobj:z16 P (ρ.put 2 ⟨w.heap.size,0,1⟩) (z0j (ρ.put 2 ⟨w.heap.size,0,1⟩) (z0o [.dead, .row [[x]]] 2 (.row (es.take i++[x]::es.drop i)))) (World.push w (.cells cells t)) ⟨w.heap.size,0,1⟩ (.row (es.take i++[x]::es.drop i)):=by
   refine ⟨Nat.one_pos,cells,t,z2m _ _,fun k r hk=>?_,fun k r j y hk hy=>?_⟩
   ·rw [y2v hi] at hk
    split at hk
    ·obtain ⟨y,_,rfl,_⟩:=hrows k r hk; rfl
    ·split at hk
     ·cases hk; rfl
     ·obtain ⟨y,_,rfl,_⟩:=hrows _ r hk; rfl
   ·have hkl:k<es.length+1:=by
     have:=(List.getElem?_eq_some_iff.1 hk).1
     simp at this; omega
    rw [Nat.mul_one,Nat.zero_add]
    rw [y2v hi] at hk
    have hc:=hcells k hkl
    have fin:∀ (y0:D) (u:Value),r=[y0]→u.oneCell'=true→z13 (z0j ρ [.row es, .row [[x]]]) w y0 u→cells[k]?=some u→∃ v,cells[k+j]?=some v∧v.oneCell'=true∧z13 (z0j (ρ.put 2 ⟨w.heap.size,0,1⟩) (z0o [.dead, .row [[x]]] 2 (.row (es.take i++[x]::es.drop i)))) (World.push w (.cells cells t)) y v:=by
     intro y0 u hr1 hu hrel hcu
     subst hr1
     cases j with
     |succ j=>simp at hy
     |zero=>simp at hy; subst hy; exact ⟨u,hcu,hu,(hrel.keep hk0).keep hkp⟩
    split at hk
    ·rename_i hlt
     obtain ⟨y0,u,hr1,hcu,hu,hrel⟩:=hrows k r hk
     exact fin y0 u hr1 hu hrel (by rw [hc,if_pos hlt]; exact hcu)
    ·rename_i hge
     split at hk
     ·rename_i hki
      cases hk
      exact fin x v rfl hvone hvrel (by rw [hc,if_neg hge,if_pos hki])
     ·rename_i hne
      obtain ⟨y0,u,hr1,hcu,hu,hrel⟩:=hrows _ r hk
      exact fin y0 u hr1 hu hrel (by rw [hc,if_neg hge,if_neg hne]; exact hcu)
  have hnw:=hr0.new hnew 1 _ _ hobj
  have hnw2:=hnw.drawn d hd
  refine ⟨ρ.put 2 ⟨w.heap.size,0,1⟩,_,_,fr,h1,h2,h3,?_,hnw2,?_,?_⟩
  ·refine .slice 2 1 0 _ none ⟨w.heap.size,0,1⟩ _ nc (Rho.put_same _ _ _) rfl (fun _=>by simp) (.inr ⟨rfl,nc,?_,by simp⟩) hnc
   show z1i (World.push w _) _=_
   rw [z0y (z2m _ _),hsz]
  ·intro id hid
   by_cases he:id=2
   ·subst he; simp
   ·rw [Rho.put_ne _ _ _ _ he] at hid
    have:=hdm id hid
    simp at this⊢; omega
  ·exact hx0.trans (((Ext.new hr0 hnew ⟨w.heap.size,0,1⟩ (.row (es.take i++[x]::es.drop i)) (.cells cells t) rfl).trans (Ext.drawn _ _ _ _ d hd)).mono (fun id hid=>by show id≠2; have hid:id<2:=hid; omega))
 have hv0:=hv2 0 _ rfl
 generalize hq0:vs.getD 0 undef=q0 at hv0
 have hva:=hargs q0 hq0
 have key:∀ n,n=es.length→z0w ρ (z0j ρ [.row es, .row [[x]]]) w (.slice 0 1 0 n none) q0→(n=0∧∃ a,q0= .slice a 0 0)∨(∃ L a c,ρ 0=some L∧L.esz=1∧q0= .slice a n c∧n≤c∧(0<c→a=some ⟨L.blk,L.base,none⟩)∧∃ m,z1i w L.blk=some m∧L.base+c≤m):=by
  intro n hn hv
  cases hv with
  |nils _ _ _ _ a _=>exact .inl ⟨rfl,_,rfl⟩
  |slice _ _ _ _ _ L a c h1 h2 h3 h4 h5=>
   rcases h4 with h4|⟨_,m,hm,hle⟩
   ·cases h4
   ·exact .inr ⟨L,a,c,h1,h2,rfl,h5,fun h=>by rw [h3 h]; simp,m,hm,by rw [h2] at hle; omega⟩
 rcases key _ rfl hv0 with ⟨h0,a,rfl⟩|⟨L,a,c,hL,hz,rfl,hnc,haa,m,hm,hroom⟩
 ·
  have hes:es=[]:=List.length_eq_zero_iff.1 h0
  have hi0:i=0:=by omega
  subst hes; subst hi0
  rw [hva] at grown⊢
  obtain ⟨e,w',fr,⟨rfl,hw'⟩,hcm,hfn,hlv⟩:=hS.last a 0 0 L1.blk L1.base vc [] v w (by omega) (by omega) (by omega) rfl (fun _=>rfl) (fun _ _ j u hj=>by simp at hj) hvc hvone cs0
  subst hw'
  have hcp:=hS.cap w 1 0 (by omega) (by omega)
  refine grown 0 [] _ (w.drawn+1) _ rfl (fun k r hk=>by simp at hk) (Nat.le_succ _) hcp (fun k hk=>?_) ?_ fr hcm hfn hlv
  ·have:k=0:=by simp at hk; omega
   subst this
   rw [Array.getElem?_append_left (by simp)]; simp
  ·simp [Builtin.zeroCells,Value.cells]; omega
 ·obtain ⟨hlt,ho⟩:=hr.obj 0 L hL
  obtain ⟨_,c0,t0,hcb,hlen,hcell⟩:=(show z16 P ρ _ w L (.row es) from ho)
  rw [hz] at hlen hcell
  rw [z0y hcb] at hm; cases hm
  have hrow:∀ (k:Nat) (r:List D),es[k]?=some r→∃ y u,r=[y]∧c0[L.base+k]?=some u∧u.oneCell'=true∧z13 (z0j ρ [.row es, .row [[x]]]) w y u:=by
   intro k r hk
   have hl:=hlen k r hk
   match r,hl with
   |[y],_=>
    obtain ⟨u,hu,h1,hrel⟩:=hcell k [y] 0 y hk rfl
    exact ⟨y,u,rfl,by simpa using hu,h1,hrel⟩
  let cs:=(c0.toList.drop L.base).take es.length
  have hcsg:∀ k,k<es.length→cs[k]?=c0[L.base+k]?:=by
   intro k hk
   show ((c0.toList.drop L.base).take es.length)[k]?=_
   rw [List.getElem?_take,if_pos hk,List.getElem?_drop]; simp
  have hcsl:cs.length=es.length:=by
   show ((c0.toList.drop L.base).take es.length).length=_
   rw [List.length_take,List.length_drop]; simp; omega
  have hcs1:∀ u∈cs,u.oneCell'=true:=by
   intro u hu
   obtain ⟨k,hk⟩:=List.getElem?_of_mem hu
   have hkl:k<es.length:=by rw [←hcsl]; exact (List.getElem?_eq_some_iff.1 hk).1
   obtain ⟨y,u',_,h2,h3,_⟩:=hrow k _ (List.getElem?_eq_getElem hkl)
   rw [hcsg k hkl,h2] at hk; cases hk; exact h3
  have hcsc:∀ j u,cs[j]?=some u→w.cell? ⟨L.blk,L.base+j,none⟩=some u:=by
   intro j u hj
   have hjl:j<es.length:=by rw [←hcsl]; exact (List.getElem?_eq_some_iff.1 hj).1
   rw [hcsg j hjl] at hj
   exact z8w hcb hj
  have hrows:∀ (k:Nat) (r:List D),es[k]?=some r→∃ y u,r=[y]∧cs[k]?=some u∧u.oneCell'=true∧z13 (z0j ρ [.row es, .row [[x]]]) w y u:=by
   intro k r hk
   obtain ⟨y,u,h1,h2,h3,h4⟩:=hrow k r hk
   exact ⟨y,u,h1,by rw [hcsg k (List.getElem?_eq_some_iff.1 hk).1]; exact h2,h3,h4⟩
  have hne:L1.blk≠L.blk:=fun e=>by have:=hr.inj 1 0 L1 L hL1 hL rfl rfl e; omega
  have place:∀ (c':Array Value) (d:Nat),c'.size=c0.size→z0x w.drawn d→(∀ k,k<es.length+1→c'[L.base+k]?=if k<i then cs[k]? else if k=i then some v else cs[k - 1]?)→a=some ⟨L.blk,L.base,none⟩→es.length+1≤c→
    ∀ fr,Comes P (lone (Frame.enter P f vs .normal) cs0 w) (lone fr cs0 (World.setObj { w with drawn:=d } L.blk (.cells c' t0 (0,0)))) (.returned (.slice a (es.length+1) c))→fr.fn=f→fr.leaving P (World.setObj { w with drawn:=d } L.blk (.cells c' t0 (0,0))) (.returned (.slice a (es.length+1) c))→
    ∃ ρ' v w' fr,Steps P (lone (Frame.enter P f vs .normal) cs0 w) (lone fr cs0 w')∧fr.fn=f∧fr.leaving P w' (.returned v)∧z0w ρ' (z0j ρ' [.dead, .row [[x]], .row (es.take i++[x]::es.drop i)]) w' (.slice 2 1 0 (es.length+1) none) v∧
     z0d P ρ' [.dead, .row [[x]], .row (es.take i++[x]::es.drop i)] w'∧Dom ρ' [.dead, .row [[x]], .row (es.take i++[x]::es.drop i)]∧Ext (· <2) ρ [.row es, .row [[x]]] w ρ' [.dead, .row [[x]], .row (es.take i++[x]::es.drop i)] w':=by
   intro c' d hsz hd hcells hae hroom1 fr h1 h2 h3
   have hr1:=hr.drawn d hd
   have hx1:Ext (· <2) ρ [.row es, .row [[x]]] w ρ [.row es, .row [[x]]] { w with drawn:=d }:=Ext.drawn _ _ _ _ d hd
   have hbs:∀ k,z1i { w with drawn:=d } L.blk=some k→z1i (World.setObj { w with drawn:=d } L.blk (.cells c' t0 (0,0))) L.blk=some k:=by
    intro k hk
    rw [z0y (w:={ w with drawn:=d }) hcb] at hk; cases hk
    rw [z0y (z0s { w with drawn:=d } L.blk _ hlt),hsz]
   obtain ⟨g1,g2⟩:=hr1.move hL rfl hnew L.base 1 (.row (es.take i++[x]::es.drop i)) rfl (.cells c' t0 (0,0)) hbs (fun kp=>by
    refine ⟨Nat.one_pos,c',t0,z0s _ _ _ hlt,fun k r hk=>?_,fun k r j y hk hy=>?_⟩
    ·rw [y2v hi] at hk
     split at hk
     ·obtain ⟨y,_,rfl,_⟩:=hrows k r hk; rfl
     ·split at hk
      ·cases hk; rfl
      ·obtain ⟨y,_,rfl,_⟩:=hrows _ r hk; rfl
    ·have hkl:k<es.length+1:=by
      have:=(List.getElem?_eq_some_iff.1 hk).1
      simp at this; omega
     rw [Nat.mul_one]
     rw [y2v hi] at hk
     have hc:=hcells k hkl
     have fin:∀ (y0:D) (u:Value),r=[y0]→u.oneCell'=true→z13 (z0j ρ [.row es, .row [[x]]]) w y0 u→c'[L.base+k]?=some u→∃ v,c'[L.base+k+j]?=some v∧v.oneCell'=true∧z13 (z0j (ρ.put 2 ⟨L.blk,L.base,1⟩) (z0o (z0o [.row es, .row [[x]]] 0 .dead) 2 (.row (es.take i++[x]::es.drop i)))) (World.setObj { w with drawn:=d } L.blk (.cells c' t0 (0,0))) y v:=by
      intro y0 u hr1 hu hrel hcu
      subst hr1
      cases j with
      |succ j=>simp at hy
      |zero=>simp at hy; subst hy; exact ⟨u,hcu,hu,(hrel.keep hx1.keep).keep kp⟩
     split at hk
     ·rename_i hlt
      obtain ⟨y0,u,hr1,hcu,hu,hrel⟩:=hrows k r hk
      exact fin y0 u hr1 hu hrel (by rw [hc,if_pos hlt]; exact hcu)
     ·rename_i hge
      split at hk
      ·rename_i hki
       cases hk
       exact fin x v rfl hvone hvrel (by rw [hc,if_neg hge,if_pos hki])
      ·rename_i hne
       obtain ⟨y0,u,hr1,hcu,hu,hrel⟩:=hrows _ r hk
       exact fin y0 u hr1 hu hrel (by rw [hc,if_neg hge,if_neg hne]; exact hcu))
   refine ⟨ρ.put 2 ⟨L.blk,L.base,1⟩,_,_,fr,h1,h2,h3,?_,g1,?_,hx1.trans (g2.mono (fun id hid=>by show id≠2; have hid:id<2:=hid; omega))⟩
   ·refine .slice 2 1 0 _ none ⟨L.blk,L.base,1⟩ _ c (Rho.put_same _ _ _) rfl (fun _=>by rw [hae]; simp) (.inr ⟨rfl,c0.size,?_,by simp; omega⟩) hroom1
    rw [z0y (z0s { w with drawn:=d } L.blk _ hlt),hsz]
   ·intro id hid
    by_cases he:id=2
    ·subst he; simp
    ·rw [Rho.put_ne _ _ _ _ he] at hid
     have:=hdm id hid
     simp at this⊢; omega
  have hin:∀ j,j<c→∃ u,c0[L.base+j]?=some u:=fun j hj=>⟨_,Array.getElem?_eq_getElem (by omega)⟩
  have hsp:∀ j,j<c→(w.cell? ⟨L.blk,L.base+j,none⟩).isSome=true:=fun j hj=>by
   obtain ⟨u,hu⟩:=hin j hj
   rw [z8w hcb hu]; rfl
  have hfz:∀ b ct tt,w.heap[b]?=some (.cells ct tt (0,0))→∀ k,w.frozen? ⟨b,k,none⟩=false:=fun b ct tt hb k=>by
   unfold World.frozen?; simp only [hb]; simp
  by_cases hfit:es.length+1≤c
  ·have hae:=haa (by omega)
   by_cases hlast:i=es.length
   ·
    have hva':vs=#[.slice (some ⟨L.blk,L.base,none⟩) es.length c, .int .i64 es.length, .slice (some ⟨L1.blk,L1.base,none⟩) 1 vc]:=by rw [hva,hae,hlast]
    obtain ⟨e,w',fr,⟨rfl,hw'⟩,hcm,hfn,hlv⟩:=hS.room L.blk L.base es.length c L1.blk L1.base vc v w hfit (by omega) (hsp _ (by omega)) (hfz _ _ _ hcb _) hvc hvone cs0
    rw [←hva'] at hcm
    obtain ⟨c',g1,g2,g3⟩:=z4b L.blk t0 [v] (L.base+es.length) w c0 hcb (by simp; omega)
    rw [g3] at hw'
    subst hw'
    refine place c' w.drawn g1 (z0x.refl _) (fun k hk=>?_) hae hfit fr (by rw [hae]; exact hcm) hfn (by rw [hae]; exact hlv)
    rw [g2]
    by_cases hki:k=es.length
    ·subst hki
     rw [if_pos (by simp),if_neg (by omega),if_pos hlast.symm]; simp
    ·rw [if_neg (by simp; omega),if_pos (by omega),hcsg k (by omega)]
   ·
    have hva':vs=#[.slice (some ⟨L.blk,L.base,none⟩) es.length c, .int .i64 i, .slice (some ⟨L1.blk,L1.base,none⟩) 1 vc]:=by rw [hva,hae]
    obtain ⟨e,w',fr,⟨rfl,hw'⟩,hcm,hfn,hlv⟩:=hS.shift L.blk L.base es.length c i L1.blk L1.base vc cs v w (by omega) hfit (by omega) hne hcsl hcsc (fun j hj=>hsp j (by omega)) (fun j _=>hfz _ _ _ hcb _) hvc hcs1 hvone
     (hfz _ _ _ hcb1) ⟨t1,c1.size,by unfold World.shape?; rw [hcb1]⟩ ⟨t0,c0.size,by unfold World.shape?; rw [hcb],by omega⟩ cs0
    rw [←hva'] at hcm
    have hcbd:w.drew.heap[L.blk]?=some (.cells c0 t0 (0,0)):=hcb
    have hdl:(cs.drop i).length=es.length - i:=by rw [List.length_drop,hcsl]
    obtain ⟨c',g1,g2,g3⟩:=z4b L.blk t0 (cs.drop i) (L.base+(i+1)) w.drew c0 hcbd (by rw [hdl]; omega)
    have hlt':L.blk<w.drew.heap.size:=hlt
    obtain ⟨c2,k1,k2,k3⟩:=z4b L.blk t0 [v] (L.base+i) (World.setObj w.drew L.blk (.cells c' t0 (0,0))) c' (z0s _ _ _ hlt') (by simp; omega)
    rw [g3,k3,y0n] at hw'
    subst hw'
    refine place c2 (w.drawn+1) (k1.trans g1) (Nat.le_succ _) (fun k hk=>?_) hae hfit fr (by rw [hae]; exact hcm) hfn (by rw [hae]; exact hlv)
    rw [k2]
    by_cases hki:k=i
    ·subst hki
     rw [if_pos (by simp),if_neg (by omega),if_pos rfl]; simp
    ·rw [if_neg (by simp; omega),g2]
     by_cases hlt2:k<i
     ·rw [if_neg (by omega),if_pos hlt2,hcsg k (by omega)]
     ·rw [if_pos (by rw [hdl]; omega),if_neg hlt2,if_neg hki,List.getElem?_drop]
      congr 1; omega
  ·have hce:c=es.length:=by omega
   have hcap:=hS.cap w (es.length+1) c (by omega) (by omega)
   by_cases hlast:i=es.length
   ·
    have hva':vs=#[.slice a es.length c, .int .i64 es.length, .slice (some ⟨L1.blk,L1.base,none⟩) 1 vc]:=by rw [hva,hlast]
    obtain ⟨e,w',fr,⟨rfl,hw'⟩,hcm,hfn,hlv⟩:=hS.last a es.length c L1.blk L1.base vc cs v w hnc (by omega) (by omega) hcsl (fun ha=>by
      by_cases h0:0<c
      ·rw [haa h0] at ha; cases ha
      ·omega) (fun a' ha' j u hj=>by
      have hjl:j<es.length:=by rw [←hcsl]; exact (List.getElem?_eq_some_iff.1 hj).1
      rw [haa (by omega)] at ha'
      cases ha'
      rw [z4l]; exact hcsc j u hj) hvc hvone cs0
    rw [←hva'] at hcm
    subst hw'
    refine grown c cs _ (w.drawn+1) _ hcsl hrows (Nat.le_succ _) hcap (fun k hk=>?_) ?_ fr hcm hfn hlv
    ·have hkk:k<(cs++[v]).length:=by simp [hcsl]; omega
     have e1:((cs++[v]).toArray++Builtin.zeroCells (Value.int .i64 0).cells (grownCap w (es.length+1) c t - (es.length+1)))[k]?=(cs++[v])[k]?:=by
      rw [Array.getElem?_append_left (by simpa using hkk)]; simp
     rw [e1,List.getElem?_append,hcsl]
     by_cases hkn:k<es.length
     ·rw [if_pos hkn,if_pos (by omega)]
     ·rw [if_neg hkn,if_neg (by omega),if_pos (by omega),show k - es.length=0 by omega]; rfl
    ·simp [Builtin.zeroCells,Value.cells,hcsl]; omega
   ·
    have hae:=haa (by omega)
    have hva':vs=#[.slice (some ⟨L.blk,L.base,none⟩) es.length c, .int .i64 i, .slice (some ⟨L1.blk,L1.base,none⟩) 1 vc]:=by rw [hva,hae]
    obtain ⟨e,w',fr,⟨rfl,hw'⟩,hcm,hfn,hlv⟩:=hS.grow L.blk L.base es.length c i L1.blk L1.base vc cs v w (by omega) hnc (by omega) (by omega) hcsl hcsc hvc hcs1 hvone cs0
    rw [←hva'] at hcm
    generalize hG:grownCap w (es.length+1) c t=G at hw' hcm hlv hcap
    generalize hROW:(cs.take i).toArray++Builtin.zeroCells (Value.int .i64 0).cells (es.length+1 - i)++Builtin.zeroCells (Value.int .i64 0).cells (G - (es.length+1))=ROW at hw'
    have hRs:ROW.size=G:=by
     rw [←hROW]; simp [Builtin.zeroCells,Value.cells,hcsl]; omega
    have hRg:∀ k,k<i→ROW[k]?=cs[k]?:=by
     intro k hk
     rw [←hROW,Array.append_assoc,Array.getElem?_append_left (by simp [hcsl]; omega)]
     simp [List.getElem?_take,hk]
    have hb0:(w.alloc (.cells ROW t)).drew.heap[w.heap.size]?=some (.cells ROW t (0,0)):=by
     show (w.heap.push _)[w.heap.size]?=_
     simp
    obtain ⟨c',g1,g2,g3⟩:=z4b w.heap.size t [v] i _ ROW hb0 (by simp; omega)
    have hdl:(cs.drop i).length=es.length - i:=by rw [List.length_drop,hcsl]
    have hb1:(World.setObj (w.alloc (.cells ROW t)).drew w.heap.size (.cells c' t (0,0))).drew.heap[w.heap.size]?=some (.cells c' t (0,0)):=by
     show (World.setObj (w.alloc (.cells ROW t)).drew w.heap.size (.cells c' t (0,0))).heap[w.heap.size]?=_
     exact z0s _ _ _ (by show _<(w.heap.push _).size; simp)
    obtain ⟨c2,k1,k2,k3⟩:=z4b w.heap.size t (cs.drop i) (i+1) _ c' hb1 (by rw [hdl,g1]; omega)
    rw [g3,k3] at hw'
    have hwe:World.setObj (World.setObj (w.alloc (.cells ROW t)).drew w.heap.size (.cells c' t (0,0))).drew w.heap.size (.cells c2 t (0,0))={ World.push w (.cells c2 t) with drawn:=w.drawn+2 }:=by
     unfold World.setObj World.drew World.alloc World.push
     simp only
     congr 1
     apply Array.ext_getElem?
     intro k
     simp only [Array.getElem?_setIfInBounds,Array.getElem?_push,Array.size_push,Array.size_setIfInBounds]
     by_cases hk:w.heap.size=k
     ·subst hk; simp
     ·have hk2:¬ k=w.heap.size:=fun e=>hk e.symm
      simp [hk,hk2]
    rw [hwe] at hw'
    subst hw'
    refine grown c cs c2 (w.drawn+2) G hcsl hrows (by show w.drawn≤_; omega) hcap (fun k hk=>?_) (by rw [k1,g1,hRs]) fr hcm hfn hlv
    rw [k2]
    by_cases hgt:i+1≤k
    ·rw [if_pos (by rw [hdl]; omega),if_neg (by omega),if_neg (by omega),List.getElem?_drop]
     congr 1; omega
    ·rw [if_neg (by omega),g2]
     by_cases hki:k=i
     ·subst hki
      rw [if_pos (by simp),if_neg (by omega),if_pos rfl]; simp
     ·rw [if_neg (by simp; omega),if_pos (by omega),hRg k (by omega)]⟩
end
end Go.Am
end
section
namespace Go.Proofs
open Go.Shelf Go.RowKit Go.Lib
def x7h:Go.Shelf.Ren:=⟨fun|39=>72|35=>103|28=>85|27=>84|21=>60|n=>n,fun|0=>0|4=>4|3=>3|22=>26|n=>n,fun|n=>n⟩
theorem x21 : Go.Proofs.Lays2.n21 Try.prog x7h :=
  { mixed := by kernel_rfl,
    f21 := by first | exact ⟨Try.f60.name, by decide, Try.func60.trans (congrArg some (by kernel_rfl))⟩ | exact Try.func60.trans (congrArg some (by kernel_rfl)),
    f27 := by first | exact ⟨Try.f84.name, by decide, Try.func84.trans (congrArg some (by kernel_rfl))⟩ | exact Try.func84.trans (congrArg some (by kernel_rfl)),
    f28 := by first | exact ⟨Try.f85.name, by decide, Try.func85.trans (congrArg some (by kernel_rfl))⟩ | exact Try.func85.trans (congrArg some (by kernel_rfl)),
    f35 := by first | exact ⟨Try.f103.name, by decide, Try.func103.trans (congrArg some (by kernel_rfl))⟩ | exact Try.func103.trans (congrArg some (by kernel_rfl)),
    f39 := by first | exact ⟨Try.f72.name, by decide, Try.func72.trans (congrArg some (by kernel_rfl))⟩ | exact Try.func72.trans (congrArg some (by kernel_rfl)),
    t0 := by exact Try.underlying0,
    a0 := by exact Try.isAgg0,
    z0 := by exact Try.sizeOf0,
    v0 := by exact Try.zeroValue0,
    t3 := by exact Try.underlying3,
    a3 := by exact Try.isAgg3,
    z3 := by exact Try.sizeOf3,
    v3 := by exact Try.zeroValue3,
    t4 := by exact Try.underlying4,
    a4 := by exact Try.isAgg4,
    z4 := by exact Try.sizeOf4,
    v4 := by exact Try.zeroValue4,
    t22 := by exact Try.underlying26,
    a22 := by exact Try.isAgg26,
    z22 := by exact Try.sizeOf26,
    v22 := by exact Try.zeroValue26,
    i3 := by kernel_rfl }
variable {P:Program} {ρ:Ren}
set_option maxHeartbeats 4000000 in
set_option maxRecDepth 100000 in
theorem x7k (L:Lays2.n21 P ρ) (b off n c i vb voff m vc:Nat) (cs vs:List Value) (w:World) (hi:i<n) (hm:0<m) (hroom:n+m≤c) (hc63:n+m≤9223372036854775807) (hvb:vb≠b)
  (hcl:cs.length=n) (hvl:vs.length=m) (hcs:∀ j v,cs[j]?=some v→w.cell? ⟨b,off+j,none⟩=some v) (hsp:∀ j,j<n+m→(w.cell? ⟨b,off+j,none⟩).isSome=true) (hfz:∀ j,j<n+m→w.frozen? ⟨b,off+j,none⟩=false)
  (hvs:∀ j v,vs[j]?=some v→w.cell? ⟨vb,voff+j,none⟩=some v) (h1c:∀ v∈cs,v.oneCell'=true) (h1v:∀ v∈vs,v.oneCell'=true)
  (tA tB:TypeId) (kA kB:Nat) (hsa:w.shape? vb=some (tA,kA)) (hsb:w.shape? b=some (tB,kB)) (hkB:kB≠0) (hfa:w.frozen? ⟨vb,voff,none⟩=false) (hfe:w.frozen? ⟨vb,kA,none⟩=false):
  Calls P (ρ.f 21) #[.slice (some ⟨b,off,none⟩) n c, .int .i64 i, .slice (some ⟨vb,voff,none⟩) m vc] w fun e w'=>
   e= .returned (.slice (some ⟨b,off,none⟩) (n+m) c)∧w'=(w.drew.setCells b (off+(i+m)) (cs.drop i)).setCells b (off+i) vs:=by
 have t0:=L.t0; have a0:=L.a0; have z0:=L.z0; have v0:=L.v0; have t3:=L.t3; have a3:=L.a3; have z3:=L.z3; have v3:=L.v3; have t4:=L.t4; have a4:=L.a4; have z4:=L.z4; have v4:=L.v4; have t22:=L.t22; have a22:=L.a22; have z22:=L.z22; have v22:=L.v22
 have u0:=run_underlying L.t0; have u3:=run_underlying L.t3; have u4:=run_underlying L.t4; have u22:=run_underlying L.t22
 have hz1:¬ ((m:Int)=0):=by omega
 have hz2:¬ ((i:Int)=(n:Int)):=by omega
 have hsz:(P.info? (ρ.t 3)).map (·.size)=some 1:=by
  obtain ⟨i0,hi0,h0,h1,h2⟩:=info_parts L.i3
  rw [hi0]; simp [h1]
 have hov:∀ lb cb,(callFunc (ρ.f 27) #[.slice (some ⟨vb,voff,none⟩) m vc, .slice (some ⟨b,off+(i+m),none⟩) lb cb]).run P w= .ok (.value (.bool false)) w:=fun lb cb=>by
  rw [run_callFunc_extern L.f27 (by kernel_rfl) (by kernel_rfl) (by kernel_rfl) (e:=Extern.SlicesOverlaps.overlaps #[(ρ.t 22),(ρ.t 22)] #[(ρ.t 4)]) (by kernel_rfl),
   Lib.run_overlaps_apart w (ρ.t 22) (ρ.t 4) (ρ.t 3) L.t22 1 L.z3 ⟨vb,voff,none⟩ ⟨b,off+(i+m),none⟩ m vc lb cb hvb tA tB kA kB hsa hsb hkB hfa hfe]
  rfl
 have hdl:(cs.drop i).length=n - i:=by rw [List.length_drop,hcl]
 have mixed:=L.mixed
 have hw1:IntKind.i64.wrap ((i:Int)+(m:Int))=(i:Int)+(m:Int):=by rw [IntKind.wrap_i64]; omega
 have hb1:(0:Int)≤(i:Int)+(m:Int):=by omega
 have hin:i≤n:=by omega
 have htn:((i:Int)+(m:Int)).toNat=i+m:=by omega
 have hb2:¬ (c=i+m):=by omega
 have hb3:(i:Int)≤(n:Int)+(m:Int):=by omega
 have hb4:¬ (c=i):=by omega
 have hcp1:∀ ty dc sc,(Builtin.copy_ #[(ρ.t 22),(ρ.t 22)] ty #[.slice (some ⟨b,off+(i+m),none⟩) (n+m - (i+m)) dc, .slice (some ⟨b,off+i,none⟩) (n+m - i) sc]).run P w.drew= .ok (goInt (cs.drop i).length) (w.drew.setCells b (off+(i+m)) (cs.drop i)):=fun ty dc sc=>
  run_copy_cells w.drew _ _ ty (ρ.t 3) b (off+(i+m)) (n+m - (i+m)) dc ⟨b,off+i,none⟩ (n+m - i) sc (cs.drop i) L.t22 hsz (by rw [hdl]; simp only [Nat.min_def]; split<;>omega)
   (fun j v hj=>by rw [Addr.add_lit,Nat.add_assoc]; exact hcs (i+j) v (by rwa [List.getElem?_drop] at hj))
   (fun j hj=>by rw [Nat.add_assoc]; exact hsp _ (by omega)) (fun j hj=>by rw [Nat.add_assoc]; exact hfz _ (by omega)) (fun v hv=>h1c v (List.mem_of_mem_drop hv))
 obtain ⟨W1,hW1⟩:∃ W1,W1=w.drew.setCells b (off+(i+m)) (cs.drop i):=⟨_,rfl⟩
 have hsp1:∀ k,k<n+m→(W1.cell? ⟨b,off+k,none⟩).isSome=true:=fun k hk=>by
  rw [hW1]
  exact isSome_setCells b _ _ _ (fun j hj=>by rw [Nat.add_assoc]; exact hsp _ (by omega)) _ (hsp k hk)
 have hcp2:∀ (W:World),(∀ x,W.cell? x=W1.cell? x)→(∀ x,W.frozen? x=W1.frozen? x)→∀ ty dc,(Builtin.copy_ #[(ρ.t 22),(ρ.t 22)] ty #[.slice (some ⟨b,off+i,none⟩) (n+m - i) dc, .slice (some ⟨vb,voff,none⟩) m vc]).run P W= .ok (goInt vs.length) (W.setCells b (off+i) vs):=fun W hWc hWf ty dc=>
  run_copy_cells W _ _ ty (ρ.t 3) b (off+i) (n+m - i) dc ⟨vb,voff,none⟩ m vc vs L.t22 hsz (by rw [hvl]; simp only [Nat.min_def]; split<;>omega)
   (fun j v hj=>by
    rw [Addr.add_lit,hWc,hW1,World.cell?_setCells_out b _ _ _ _ (fun h _=>absurd h hvb)]
    exact hvs j v hj)
   (fun j hj=>by rw [hWc,Nat.add_assoc]; exact hsp1 _ (by omega)) (fun j hj=>by rw [hWf,hW1,World.frozen?_setCells,Nat.add_assoc]; exact hfz _ (by omega)) h1v
 rw [←hW1] at hcp1
 go_enter L.f21,Body2.n21_ntmps ρ
 go_wp2_with (simp only [hov])
 go_region_law_o (refine step_copy_runI rfl _ _ (ρ.t 22) (ρ.t 22) rfl _ _ (by simp [Act.eval,Act.put]) (by simp [Act.eval,Act.put]) (hcp1 _ _ _) ?_)
 go_wp2_with (at_builtin; refine wpList_copy_runI _ rfl _ _ (ρ.t 22) (ρ.t 22) rfl _ _ rfl rfl (hcp2 _ (fun _=>rfl) (fun _=>rfl) _ _) ?_)
 go_ret
 first|exact ⟨rfl,rfl⟩|exact ⟨rfl,by rw [hW1]⟩
set_option maxHeartbeats 4000000 in
set_option maxRecDepth 100000 in
theorem w1b (L:Lays2.n21 P ρ) (b off n c vb voff m vc:Nat) (vs:List Value) (w:World) (hm:0<m) (hroom:n+m≤c) (hc63:n+m≤9223372036854775807)
  (hvl:vs.length=m) (hsp:∀ j,j<m→(w.cell? ⟨b,off+n+j,none⟩).isSome=true) (hfz:∀ j,j<m→w.frozen? ⟨b,off+n+j,none⟩=false)
  (hvs:∀ j v,vs[j]?=some v→w.cell? ⟨vb,voff+j,none⟩=some v) (h1v:∀ v∈vs,v.oneCell'=true):
  Calls P (ρ.f 21) #[.slice (some ⟨b,off,none⟩) n c, .int .i64 n, .slice (some ⟨vb,voff,none⟩) m vc] w fun e w'=>
   e= .returned (.slice (some ⟨b,off,none⟩) (n+m) c)∧w'=w.setCells b (off+n) vs:=by
 have t0:=L.t0; have a0:=L.a0; have z0:=L.z0; have v0:=L.v0; have t3:=L.t3; have a3:=L.a3; have z3:=L.z3; have v3:=L.v3; have t4:=L.t4; have a4:=L.a4; have z4:=L.z4; have v4:=L.v4; have t22:=L.t22; have a22:=L.a22; have z22:=L.z22; have v22:=L.v22
 have u0:=run_underlying L.t0; have u3:=run_underlying L.t3; have u4:=run_underlying L.t4; have u22:=run_underlying L.t22
 have mixed:=L.mixed
 have hz1:¬ ((m:Int)=0):=by omega
 have hsrc:Src P 1 (ρ.t 22) (.slice (some ⟨vb,voff,none⟩) m vc) m vs w:=Src.ofSlice w L.t22 ⟨vb,voff,none⟩ m vc vs (by omega) (fun j u hj=>by rw [Addr.add_lit]; exact hvs j u hj) h1v
 go_enter L.f21,Body2.n21_ntmps ρ
 go_wp2_with (at_builtin; refine wpList_append_room1 _ rfl _ _ (ρ.t 22) (ρ.t 22) rfl (ρ.t 3) _ _ L.t22 L.i3 b off n c rfl _ rfl m vs hsrc hroom (by rw [hvl]; exact hsp) (by rw [hvl]; exact hfz) ?_)
 go_ret
 exact ⟨rfl,rfl⟩
end Go.Proofs
namespace Go.Am
open Go.Proofs Go.Shelf
theorem w58:x9h Try.prog 60 3 where
 shift:=fun b off n c i vb voff vc cs v w h1 h2 h3 h4 h5 h6 h7 h8 h9 h10 h11 h12 ⟨tA,kA,h13⟩ ⟨tB,kB,h14,h15⟩=>x7k x21 b off n c i vb voff 1 vc cs [v] w h1 (by omega) h2 h3 h4 h5 rfl h6 h7 h8 (fun j u hj=>by
  cases j with
  |zero=>cases hj; exact h9
  |succ j=>simp at hj) h10 (by simpa using h11) tA tB kA kB h13 h14 h15 (h12 _) (h12 _)
 room:=fun b off n c vb voff vc v w h1 h2 h3 h4 h5 h6=>w1b x21 b off n c vb voff 1 vc [v] w (by omega) h1 h2 rfl (fun j hj=>by
   have:j=0:=by omega
   subst this; exact h3) (fun j hj=>by
   have:j=0:=by omega
   subst this; exact h4) (fun j u hj=>by
   cases j with
   |zero=>cases hj; exact h5
   |succ j=>simp at hj) (by simpa using h6)
 last:=fun base n c vb voff vc cs v w h1 h2 h3 h4 h5 h6 h7 h8=>Any2.slices_Insert_int_end_grow x21 base n c vb voff 1 vc cs [v] w (by omega) h1 h2 h3 h4 rfl h5 h6 (fun j u hj=>by
  cases j with
  |zero=>cases hj; exact h7
  |succ j=>simp at hj) (by simpa using h8)
 grow:=fun b off n c i vb voff vc cs v w h1 h2 h3 h4 h5 h6 h7 h8 h9=>Any2.slices_Insert_int_grow x21 b off n c i vb voff 1 vc cs [v] w h1 (by omega) h2 h3 h4 h5 rfl h6 (fun j u hj=>by
  cases j with
  |zero=>cases hj; exact h7
  |succ j=>simp at hj) h8 (by simpa using h9)
 cap:=fun w n c h1 h2=>by unfold grownCap; simp [Question.cut]
noncomputable def y0z:Ctr:=
 ⟨60,[.vec 0 1, .int .i64, .full 1 1],[.row [(Go.Am.CK.int Go.IntKind.i64)], .row [(Go.Am.CK.int Go.IntKind.i64)]],[(.ret,⟨[(0, .vec 2 1)],[.dead, .row [(Go.Am.CK.int Go.IntKind.i64)], .row [(Go.Am.CK.int Go.IntKind.i64)]],1⟩)]⟩
def q60 (x:List (List D)×(List (List D)×(Int×Unit))):Option (List (List D)×(List (List D)×Unit)):=
 match x.2.1 with
 |[[v]]=>bif decide (0≤x.2.2.1)&&(Nat.ble x.2.2.1.toNat x.1.length&&Nat.ble x.1.length 1000000) then some ([[v]],(x.1.take x.2.2.1.toNat++[v]::x.1.drop x.2.2.1.toNat,())) else none
 |_=>none
noncomputable def G60:(p:Prim)→(List (List D)×(List (List D)×(Int×Unit)))→Option (List (List D)×(List (List D)×Unit)):=
 fun p x=>q60 x
noncomputable def F60:Prim→Tup (y0z).scs→Option (STup (scss (y0z).outs)):=
 fun p x=>G60 p x
theorem w1r:z12 Go.Proofs.Try.prog 60:=enters_auto (b:=_) rfl (by kernel_rfl)
theorem ok60:CtrOk Go.Proofs.Try.prog y0z (F60 std):=by
 have key:∀ (es r:List (List D)) (i:Int) (y:STup (scss (y0z).outs)),q60 (es,(r,(i,())))=some y→(y2i std y0z (z9u (y0z).scs (es,(r,(i,()))))).2.length≤(z1p std (y0z).outs y).2.s.heap.length∧
   z6e Try.prog 60 (y2i std y0z (z9u (y0z).scs (es,(r,(i,()))))).1 (y2i std y0z (z9u (y0z).scs (es,(r,(i,()))))).2 (z0r (z1p std (y0z).outs y).2.s.env 0) (z1p std (y0z).outs y).2.s.heap:=by
  intro es r i y hy
  unfold q60 at hy
  simp only at hy
  match r,hy with
  |[[v]],hy=>
   simp only at hy
   cases hb:(decide (0≤i)&&(Nat.ble i.toNat es.length&&Nat.ble es.length 1000000)) with
   |false=>rw [hb] at hy; cases hy
   |true=>
    rw [hb] at hy; cases hy
    simp only [Bool.and_eq_true,decide_eq_true_eq] at hb
    obtain ⟨h0,h1,h2⟩:=hb
    have h1:=Nat.le_of_ble_eq_true h1
    have h2:=Nat.le_of_ble_eq_true h2
    have hi:((i.toNat:Nat):Int)=i:=by omega
    have:=w1c w58 (es:=es) (x:=v) (i:=i.toNat) h1 h2
    have hl:es.length+1=(es.take i.toNat++[v]::es.drop i.toNat).length:=by simp; omega
    rw [hl,hi] at this
    exact ⟨(by show 2≤3; omega),this⟩
 exact ⟨w1r,fun x y hy=>key x.1 x.2.1 x.2.2.1 y hy⟩
end Go.Am
end
noncomputable section
namespace Go.Am
def v1o:Ctr:=
 ⟨26,[.list 1],[],[(.ret,⟨[(0, .tuple [.vec 0 1, .int .i64])],[.row [ci]],1⟩)]⟩
def la26:List LA:=
 [⟨26,[false,true,false,true,true,true,true,true],0,⟨⟨[(6, .bptr 0 0),(7, .vec 2 1),(23, .int .i64),(24, .int .i64)],[.box [.clo 57 [.bptr 1 0] []], .row [ci], .row [ci]],37⟩,[((AX.exit 0),⟨[(7, .vec 0 1)],[.row [ci]],37⟩)]⟩⟩,
 ⟨58,[false,true,false,true],4,⟨⟨[(0, .vec 2 1),(1, .clo 59 [] [.bptr 0 0, .bptr 3 0]),(7, .vec 2 1),(8, .int .i64),(9, .int .i64)],[.box [.clo 57 [.bptr 1 0] []], .row [ci], .row [ci], .box [.int .i64]],21⟩,[(AX.ret,⟨[(4, .int .i64)],[.box [.clo 57 [.bptr 1 0] []], .row [ci], .row [ci], .box [.int .i64]],21⟩),((AX.exit 0),⟨[(0, .vec 2 1)],[.box [.clo 57 [.bptr 1 0] []], .row [ci], .row [ci], .box [.int .i64]],21⟩)]⟩⟩]
def ja26:List JA:=
 [⟨26,[false,true,true,false,false,true,false,true,true,true,true,true],0,[(AX.normal,⟨[(6, .bptr 0 0),(7, .vec 1 1),(23, .int .i64),(24, .int .i64)],[.box [.clo 57 [.bptr 2 0] []], .row [ci], .row [ci]],37⟩)]⟩]
def v7c:List CF:=
 [⟨y0z,F60⟩,⟨w2a,G54⟩]
def an26:Anns:=
 ⟨v7c,ja26,[]⟩
def v8y (p:Prim):(LD×(LD×T4))→Option ((LD×(LD×T4))⊕((LD×(LD×T3))⊕(LD×(LD×T2)))):=
 fun a=>opt.run _ (
 opt.ask _ (p.cmp .lss a.2.2.2.2.1 a.2.2.2.1) (
 opt.need _ (bif (p.cmp .geq a.2.2.2.2.1 (0:Int)) then (p.cmp .lss a.2.2.2.2.1 (p.ofNat (p.len a.2.1))) else Bool.false)<|
 opt.need _ (p.rowOk a.2.1 (p.add 0 (p.nat a.2.2.2.2.1)) [ci])<|
 opt.need _ (bif (p.cmp .geq a.2.2.1 (0:Int)) then (p.cmp .lss a.2.2.1 (p.ofNat 10)) else Bool.false)<|
 opt.need _ (bif (p.cmp .geq (p.rdI a.2.1 (p.add 0 (p.nat a.2.2.2.2.1)) 0) (0:Int)) then (p.cmp .lss (p.rdI a.2.1 (p.add 0 (p.nat a.2.2.2.2.1)) 0) (p.ofNat 10)) else Bool.false)<|
 opt.need _ (p.rowOk a.1 (p.add (p.add 1 (p.mul (p.nat a.2.2.1) 10)) (p.nat (p.rdI a.2.1 (p.add 0 (p.nat a.2.2.2.2.1)) 0))) [ci])<|
 opt.ask _ (p.cmp .eql (p.rdI a.1 (p.add (p.add 1 (p.mul (p.nat a.2.2.1) 10)) (p.nat (p.rdI a.2.1 (p.add 0 (p.nat a.2.2.2.2.1)) 0))) 0) (1:Int)) (
 opt.ret _ (Sum.inr (Sum.inl (a.1,(a.2.1,(a.2.2.1,(a.2.2.2.2.1,()))))))) (
 opt.need _ (p.eqN 0 0)<|
 opt.need _ (p.eqN (p.len a.2.1) (p.len a.2.1))<|
 opt.need _ (p.eqN 0 0)<|
 opt.need _ (p.eqN (p.len a.2.1) (p.len a.2.1))<|
 opt.ret _ (Sum.inl (a.1,(a.2.1,(a.2.2.1,(a.2.2.2.1,((p.ar .add .i64 a.2.2.2.2.1 (1:Int)),())))))))) (
 opt.need _ (p.eqN 0 0)<|
 opt.need _ (p.eqN (p.len a.2.1) (p.len a.2.1))<|
 opt.ret _ (Sum.inr (Sum.inr (a.1,(a.2.1,(a.2.2.1,())))))))
def w7j (it:It) (p:Prim):(LD×(LD×T3))→Option ((LD×(LD×T3))⊕(LD×Unit)):=
 fun a=>opt.run _ (
 opt.ask _ (p.cmp .lss a.2.2.2.1 a.2.2.1) (
 opt.bnd ((LD×(LD×T3))) _ (
 opt.run ((LD×(LD×T3))) (
 opt.need _ (p.eqN 0 0)<|
 opt.need _ (p.eqN (p.len a.2.1) (p.len a.2.1))<|
 opt.need _ (p.eqN 0 0)<|
 opt.need _ (p.eqN (p.len a.2.1) (p.len a.2.1))<|
 opt.alt ((LD×(LD×T3))) ((LD×(LD×T2))) _ (
 it _ _ (v8y p) (a.1,(a.2.1,(a.2.2.2.1,((p.ofNat (p.len a.2.1)),((0:Int),())))))) (fun b=>
 opt.need _ (p.eqN 0 0)<|
 opt.need _ (p.eqN (p.len a.2.1) (p.len b.2.1))<|
 opt.need _ (p.eqN 0 0)<|
 opt.need _ (p.eqN 1 (p.len [[(D.int .i64 b.2.2.1)]]))<|
 opt.need _ (p.eqN 1 (p.len [[(D.int .i64 b.2.2.1)]]))<|
 opt.bnd ((LD×(LD×Unit))) _ (G60 p (b.2.1,([[(D.int .i64 b.2.2.1)]],(b.2.2.2.1,())))) fun c=>
 opt.need _ (p.eqN 0 0)<|
 opt.need _ (p.eqN (p.len c.2.1) (p.len c.2.1))<|
 opt.ret _ (c.2.1,(b.1,(a.2.2.1,(a.2.2.2.1,()))))) (fun d=>
 opt.bnd ((LD×(LD×T2))) _ (some d) fun e=>
 opt.need _ (p.eqN 0 0)<|
 opt.need _ (p.eqN (p.len a.2.1) (p.len e.2.1))<|
 opt.need _ (p.eqN 0 0)<|
 opt.need _ (p.eqN 1 (p.len [[(D.int .i64 e.2.2.1)]]))<|
 opt.need _ (p.eqN 1 (p.len [[(D.int .i64 e.2.2.1)]]))<|
 opt.bnd ((LD×(LD×Unit))) _ (G60 p (e.2.1,([[(D.int .i64 e.2.2.1)]],((p.ofNat (p.len e.2.1)),())))) fun f=>
 opt.need _ (p.eqN 0 0)<|
 opt.need _ (p.eqN (p.len f.2.1) (p.len f.2.1))<|
 opt.ret _ (f.2.1,(e.1,(a.2.2.1,(a.2.2.2.1,()))))))) fun g=>
 opt.need _ (p.eqN 0 0)<|
 opt.need _ (p.eqN (p.len g.1) (p.len g.1))<|
 opt.ret _ (Sum.inl (g.2.1,(g.1,(g.2.2.1,((p.ar .add .i64 g.2.2.2.1 (1:Int)),())))))) (
 opt.need _ (p.eqN 0 0)<|
 opt.need _ (p.eqN (p.len a.2.1) (p.len a.2.1))<|
 opt.ret _ (Sum.inr (a.2.1,()))))
def g26 (it:It):(p:Prim)→(LD×Unit)→Option ((LD×T2)):=
 fun p x=>
 opt.alt T1 ((LD×T2)) _ (g54 it p (x.1,())) (fun a=>
 opt.ask _ (p.cmp .neq a.1 (0:Int)) (
 opt.ret _ ([],(a.1,()))) (
 opt.no _ 41)) (fun b=>
 opt.bnd ((LD×T2)) _ (some b) fun c=>
 opt.ask _ (p.cmp .neq c.2.1 (0:Int)) (
 opt.ret _ ([],(c.2.1,()))) (
 opt.need _ (p.rowOk c.1 0 [ci])<|
 opt.bnd ((LD×Unit)) _ (
 it _ _ (w7j it p) (c.1,([],((p.rdI c.1 0 0),((0:Int),()))))) fun d=>
 opt.need _ (p.eqN 0 0)<|
 opt.need _ (p.eqN (p.len d.1) (p.len d.1))<|
 opt.ret _ (d.1,((0:Int),()))))
def G26:=g26 it0
theorem ok26:CtrOk PG v1o (G26 std):=okF (a:=an26) (l:=la26) (gC ok60 (gC v4q (gN))) (by kernel_rfl) fun _ _=>by kernel_rfl
end Go.Am
end
section
namespace Go.Am
open T11
variable {fl:List Int→Bool}
def v7m (P:Int→Bool):List Int→Nat
 |[]=>0
 |x::l=>bif P x then 0 else v7m P l+1
def w8a (d:List (List Int)) (i:Nat) (l:List Int):List Int:=l.take (v7m (fun x=>bt d i x.toNat) l)++(i:Int)::l.drop (v7m (fun x=>bt d i x.toNat) l)
end Go.Am
end
section
namespace Go.Am
noncomputable def x8q:Ctr:=
 ⟨15,[.agg [.int .i64, .int .i64, .int .i64, .list 3]],[],[(.ret,⟨[(0, .tuple [.list 1, .int .i64])],[],1⟩)]⟩
noncomputable def x8p:Ctr:=
 ⟨17,[.agg [.int .i64, .int .i64, .int .i64, .list 3]],[],[(.ret,⟨[(0, .tuple [.list 1, .int .i64])],[],1⟩)]⟩
noncomputable def G15:(p:Prim)→(Int×(Int×(Int×(List (List D)×Unit))))→Option (List (List D)×(Int×Unit)):=
 fun p x=>bodyRun opt std (autoEnvD [] Go.Proofs.Try.prog) (w0t opt) 3000 x8q x
noncomputable def G17:(p:Prim)→(Int×(Int×(Int×(List (List D)×Unit))))→Option (List (List D)×(Int×Unit)):=
 fun p x=>bodyRun opt std (autoEnvD [] Go.Proofs.Try.prog) (w0t opt) 3000 x8p x
noncomputable def F15:Prim→Tup (x8q).scs→Option (STup (scss (x8q).outs)):=fun p x=>G15 p x
noncomputable def F17:Prim→Tup (x8p).scs→Option (STup (scss (x8p).outs)):=fun p x=>G17 p x
theorem w1u:z12 Go.Proofs.Try.prog 15:=enters_auto (b:=_) rfl (by kernel_rfl)
theorem w1t:z12 Go.Proofs.Try.prog 17:=enters_auto (b:=_) rfl (by kernel_rfl)
theorem ok15:CtrOk Go.Proofs.Try.prog x8q (F15 std):=ctr_of_body (autoEnvD_ok follows_mixed) y3y w1u fun x=>rfl
theorem ok17:CtrOk Go.Proofs.Try.prog x8p (F17 std):=ctr_of_body (autoEnvD_ok follows_mixed) y3y w1t fun x=>rfl
end Go.Am
end
noncomputable section
namespace Go.Am
def v1s:Ctr:=
 ⟨14,[],[],[(.ret,⟨[(0, .bool)],[],1⟩)]⟩
def la14:List LA:=
 []
def ja14:List JA:=
 [⟨14,[false,false,true,true,true,true,true,true,true,true,true,true,true,true],0,[(AX.normal,⟨[(1, .list 1),(3, .list 1),(5, .vec 0 1),(7, .int .i64),(10, .vec 1 1),(12, .list 1),(14, .list 1),(18, .list 1),(115, .bool)],[.row [ci], .row [ci]],168⟩)]⟩,
 ⟨14,[false,true,true,true,true,true,true,true,true,true,true,true,true,true,true],0,[(AX.normal,⟨[(0, .bool)],[],168⟩)]⟩]
def v7l:List CF:=
 [⟨v1m,G29⟩,⟨v1p,G25⟩,⟨w65,G22⟩,⟨w2c,G21⟩,⟨v1j,G33⟩,⟨v1n,G28⟩,⟨v1k,G31⟩,⟨v1l,G30⟩,⟨v1h,G37⟩,⟨v1o,G26⟩,⟨v1q,G24⟩,⟨v1i,G36⟩,⟨w2b,G35⟩,⟨v1g,G41⟩,⟨x8p,F17⟩,⟨x8q,F15⟩,⟨v1f,G45⟩]
def an14:Anns:=
 ⟨v7l,ja14,[]⟩
def g14 (it:It):(p:Prim)→Unit→Option T0:=
 fun p x=>
 opt.bnd T22 _ (G45 p ()) fun a=>
 opt.bnd ((LD×T2)) _ (G15 p (a.1,(a.2.1,(a.2.2.1,(a.2.2.2.1,()))))) fun b=>
 opt.bnd T22 _ (G45 p ()) fun c=>
 opt.bnd ((LD×T2)) _ (G17 p (c.1,(c.2.1,(c.2.2.1,(c.2.2.2.1,()))))) fun d=>
 opt.bnd ((LD×Unit)) _ (G41 p ()) fun e=>
 opt.bnd ((LD×T2)) _ (g35 it p (e.1,())) fun f=>
 opt.bnd ((LD×Unit)) _ (G41 p ()) fun g=>
 opt.bnd T9 _ (g36 it p (g.1,())) fun h=>
 opt.bnd ((LD×Unit)) _ (G41 p ()) fun i=>
 opt.bnd T1 _ (g24 it p (i.1,([k0k,[k1k],[k3k],k4k],()))) fun j=>
 opt.bnd ((LD×Unit)) _ (G41 p ()) fun k=>
 opt.bnd ((LD×T2)) _ (g26 it p (k.1,())) fun l=>
 opt.bnd ((LD×Unit)) _ (G41 p ()) fun m=>
 opt.bnd ((LD×T2)) _ (g37 it p (m.1,())) fun n=>
 opt.bnd ((LD×T2)) _ (g30 it p ([[k1k],[k1k],[k1k]],())) fun o=>
 opt.bnd ((LD×T2)) _ (g30 it p ([k0k,k0k,k4k],())) fun q=>
 opt.bnd ((LD×T2)) _ (g31 it p ([k0k,k0k,k4k],())) fun r=>
 opt.bnd T1 _ (g28 it p ([k0k,k0k,k4k],([k0k,[k1k]],()))) fun t=>
 opt.bnd ((LD×(LD×(LD×(LD×T50))))) _ (
 opt.run ((LD×(LD×(LD×(LD×T50))))) (
 opt.ask _ (p.cmp .neq b.2.1 (0:Int)) (
 opt.need _ (p.eqN 0 0)<|
 opt.need _ (p.eqN (p.len f.1) (p.len f.1))<|
 opt.need _ (p.eqN 0 0)<|
 opt.need _ (p.eqN (p.len l.1) (p.len l.1))<|
 opt.ret _ (f.1,(l.1,(b.1,(d.1,(h.1,(n.1,(o.1,(r.1,(Bool.true,())))))))))) (
 opt.ask _ (p.cmp .neq d.2.1 (0:Int)) (
 opt.need _ (p.eqN 0 0)<|
 opt.need _ (p.eqN (p.len f.1) (p.len f.1))<|
 opt.need _ (p.eqN 0 0)<|
 opt.need _ (p.eqN (p.len l.1) (p.len l.1))<|
 opt.ret _ (f.1,(l.1,(b.1,(d.1,(h.1,(n.1,(o.1,(r.1,(Bool.true,())))))))))) (
 opt.ask _ (p.cmp .neq f.2.1 (0:Int)) (
 opt.need _ (p.eqN 0 0)<|
 opt.need _ (p.eqN (p.len f.1) (p.len f.1))<|
 opt.need _ (p.eqN 0 0)<|
 opt.need _ (p.eqN (p.len l.1) (p.len l.1))<|
 opt.ret _ (f.1,(l.1,(b.1,(d.1,(h.1,(n.1,(o.1,(r.1,(Bool.true,())))))))))) (
 opt.ask _ (p.cmp .neq h.2.1 (0:Int)) (
 opt.need _ (p.eqN 0 0)<|
 opt.need _ (p.eqN (p.len f.1) (p.len f.1))<|
 opt.need _ (p.eqN 0 0)<|
 opt.need _ (p.eqN (p.len l.1) (p.len l.1))<|
 opt.ret _ (f.1,(l.1,(b.1,(d.1,(h.1,(n.1,(o.1,(r.1,(Bool.true,())))))))))) (
 opt.ask _ (p.cmp .neq j.1 (0:Int)) (
 opt.need _ (p.eqN 0 0)<|
 opt.need _ (p.eqN (p.len f.1) (p.len f.1))<|
 opt.need _ (p.eqN 0 0)<|
 opt.need _ (p.eqN (p.len l.1) (p.len l.1))<|
 opt.ret _ (f.1,(l.1,(b.1,(d.1,(h.1,(n.1,(o.1,(r.1,(Bool.true,())))))))))) (
 opt.ask _ (p.cmp .neq l.2.1 (0:Int)) (
 opt.need _ (p.eqN 0 0)<|
 opt.need _ (p.eqN (p.len f.1) (p.len f.1))<|
 opt.need _ (p.eqN 0 0)<|
 opt.need _ (p.eqN (p.len l.1) (p.len l.1))<|
 opt.ret _ (f.1,(l.1,(b.1,(d.1,(h.1,(n.1,(o.1,(r.1,(Bool.true,())))))))))) (
 opt.ask _ (p.cmp .neq n.2.1 (0:Int)) (
 opt.need _ (p.eqN 0 0)<|
 opt.need _ (p.eqN (p.len f.1) (p.len f.1))<|
 opt.need _ (p.eqN 0 0)<|
 opt.need _ (p.eqN (p.len l.1) (p.len l.1))<|
 opt.ret _ (f.1,(l.1,(b.1,(d.1,(h.1,(n.1,(o.1,(r.1,(Bool.true,())))))))))) (
 opt.ask _ (p.cmp .neq o.2.1 (0:Int)) (
 opt.need _ (p.eqN 0 0)<|
 opt.need _ (p.eqN (p.len f.1) (p.len f.1))<|
 opt.need _ (p.eqN 0 0)<|
 opt.need _ (p.eqN (p.len l.1) (p.len l.1))<|
 opt.ret _ (f.1,(l.1,(b.1,(d.1,(h.1,(n.1,(o.1,(r.1,(Bool.true,())))))))))) (
 opt.ask _ (p.cmp .neq q.2.1 (13:Int)) (
 opt.need _ (p.eqN 0 0)<|
 opt.need _ (p.eqN (p.len f.1) (p.len f.1))<|
 opt.need _ (p.eqN 0 0)<|
 opt.need _ (p.eqN (p.len l.1) (p.len l.1))<|
 opt.ret _ (f.1,(l.1,(b.1,(d.1,(h.1,(n.1,(o.1,(r.1,(Bool.true,())))))))))) (
 opt.ask _ (p.cmp .neq r.2.1 (0:Int)) (
 opt.need _ (p.eqN 0 0)<|
 opt.need _ (p.eqN (p.len f.1) (p.len f.1))<|
 opt.need _ (p.eqN 0 0)<|
 opt.need _ (p.eqN (p.len l.1) (p.len l.1))<|
 opt.ret _ (f.1,(l.1,(b.1,(d.1,(h.1,(n.1,(o.1,(r.1,(Bool.true,())))))))))) (
 opt.need _ (p.eqN 0 0)<|
 opt.need _ (p.eqN (p.len f.1) (p.len f.1))<|
 opt.need _ (p.eqN 0 0)<|
 opt.need _ (p.eqN (p.len l.1) (p.len l.1))<|
 opt.ret _ (f.1,(l.1,(b.1,(d.1,(h.1,(n.1,(o.1,(r.1,((p.cmp .neq t.1 (0:Int)),()))))))))))))))))))))) fun u=>
 opt.ask _ u.2.2.2.2.2.2.2.2.1 (
 opt.ret _ (Bool.false,())) (
 opt.bnd ((LD×T2)) _ (g33 it p (u.2.2.2.2.2.2.1,())) fun v=>
 opt.bnd T0 _ (
 opt.run T0 (
 opt.ask _ (p.cmp .eql v.2.1 (0:Int)) (
 opt.need _ (p.and (p.leN (p.add 0 (p.len v.1)) (p.len v.1)) (p.and Bool.true Bool.true))<|
 opt.bnd T0 _ (g21 it p ((p.cut v.1 0 (p.len v.1)),([[k1k],[k1k],[k1k]],()))) fun w=>
 opt.ask _ w.1 (
 opt.bnd T0 _ (g21 it p (u.2.2.1,([k0k,[k1k]],()))) fun z=>
 opt.ask _ z.1 (
 opt.bnd T0 _ (g22 it p (u.2.2.2.1,([[(D.list Bool.true 1 [[k1k]])],[(D.list Bool.true 1 [[k3k]])],[(D.list Bool.true 1 [k0k])]],()))) fun a1=>
 opt.ask _ a1.1 (
 opt.need _ (p.and (p.leN (p.add 0 (p.len u.1)) (p.len u.1)) (p.and Bool.true Bool.true))<|
 opt.bnd T0 _ (g21 it p ((p.cut u.1 0 (p.len u.1)),([[k1k],[k3k],[k3k],[k1k]],()))) fun b1=>
 opt.ask _ b1.1 (
 opt.ask _ (p.cmp .eql u.2.2.2.2.1 (2:Int)) (
 opt.bnd ((LD×Unit)) _ (G41 p ()) fun c1=>
 opt.need _ (p.and Bool.true (p.and (p.leN (p.add 0 (p.len u.2.1)) (p.len u.2.1)) Bool.true))<|
 opt.bnd T1 _ (g25 it p (c1.1,((p.cut u.2.1 0 (p.len u.2.1)),()))) fun d1=>
 opt.ask _ (p.cmp .eql d1.1 (0:Int)) (
 opt.bnd T0 _ (g22 it p (u.2.2.2.2.2.1,([[(D.list Bool.true 1 [k0k,[k1k],[k3k],k4k])]],()))) fun e1=>
 opt.ask _ e1.1 (
 opt.bnd T1 _ (g29 it p ([k0k,k0k,k4k],(u.2.2.2.2.2.2.2.1,()))) fun f1=>
 opt.ret _ ((p.cmp .eql f1.1 (0:Int)),())) (
 opt.ret _ (Bool.false,()))) (
 opt.ret _ (Bool.false,()))) (
 opt.ret _ (Bool.false,()))) (
 opt.ret _ (Bool.false,()))) (
 opt.ret _ (Bool.false,()))) (
 opt.ret _ (Bool.false,()))) (
 opt.ret _ (Bool.false,()))) (
 opt.ret _ (Bool.false,())))) fun g1=>
 opt.ret _ (g1.1,()))
def G14:=g14 it0
theorem ok14:CtrOk PG v1s (G14 std):=okF (a:=an14) (l:=la14) (gC ok29 (gC ok25 (gC v9z (gC v4s (gC ok33 (gC ok28 (gC ok31 (gC ok30 (gC ok37 (gC ok26 (gC ok24 (gC ok36 (gC v4r (gC ok41 (gC ok17 (gC ok15 (gC ok45 (gN)))))))))))))))))) (by kernel_rfl) fun _ _=>by kernel_rfl
end Go.Am
end
section
namespace Go.Am
theorem v3o {i j:It} (h:i.Le j):∀ s,le (g21 i std s) (g21 j std s):=fun _=>z02 (le_refl _) (z2u (h _ _ _ _ _ (fun _=>le_refl _)) (fun _=>le_refl _) (fun _=>le_refl _))
theorem w9h {i j:It} (h:i.Le j):∀ s,le (y99 i std s) (y99 j std s):=fun _=>z2k (z02 (z0c (z0c (z0c (z0c (z0f (v3o h _) (fun _=>le_refl _)))))) (le_refl _))
theorem v98 {i j:It} (h:i.Le j):∀ s,le (g22 i std s) (g22 j std s):=fun _=>z02 (le_refl _) (z2u (h _ _ _ _ _ (w9h h)) (fun _=>le_refl _) (fun _=>le_refl _))
theorem v96 {i j:It} (h:i.Le j):∀ s,le (g38 i std s) (g38 j std s):=fun _=>z2u (h _ _ _ _ _ (fun _=>le_refl _)) (fun _=>le_refl _) (fun _=>le_refl _)
theorem v3m {i j:It} (h:i.Le j):∀ s,le (g40 i std s) (g40 j std s):=fun _=>z2u (h _ _ _ _ _ (fun _=>le_refl _)) (fun _=>le_refl _) (fun _=>le_refl _)
theorem w9b {i j:It} (h:i.Le j):∀ s,le (w7g i std s) (w7g j std s):=fun _=>z2k (z02 (z0f (v3m h _) (fun _=>z0f (v3m h _) (fun _=>le_refl _))) (le_refl _))
theorem w9c {i j:It} (h:i.Le j):∀ s,le (w7h i std s) (w7h j std s):=fun _=>z2k (z02 (z2u (z2k (z0f (v3m h _) (fun _=>z02 (le_refl _) (z2u (h _ _ _ _ _ (w9b h)) (fun _=>le_refl _) (fun _=>le_refl _))))) (fun _=>le_refl _) (fun _=>le_refl _)) (le_refl _))
theorem w9d {i j:It} (h:i.Le j):∀ s,le (w7i i std s) (w7i j std s):=fun _=>z2k (z02 (z0c (z0c (z0f (v96 h _) (fun _=>le_refl _)))) (le_refl _))
theorem v3n {i j:It} (h:i.Le j):∀ s,le (g27 i std s) (g27 j std s):=fun _=>z0f (le_refl _) (fun _=>z02 (le_refl _) (z2u (h _ _ _ _ _ (w9d h)) (fun _=>le_refl _) (fun _=>z0f (le_refl _) (fun _=>z2u (h _ _ _ _ _ (w9c h)) (fun _=>le_refl _) (fun _=>le_refl _)))))
theorem mg33 {i j:It} (h:i.Le j):∀ s,le (g33 i std s) (g33 j std s):=fun _=>z0f (v3n h _) (fun _=>z02 (z0f (v3n h _) (fun _=>le_refl _)) (z0f (h _ _ _ _ _ (fun _=>le_refl _)) (fun _=>le_refl _)))
theorem w9f {i j:It} (h:i.Le j):∀ s,le (w7k i std s) (w7k j std s):=fun _=>z2k (z02 (z0c (z0c (z0c (z0c (z0f (v3m h _) (fun _=>le_refl _)))))) (le_refl _))
theorem w9g {i j:It} (h:i.Le j):∀ s,le (w7l i std s) (w7l j std s):=fun _=>z2k (z02 (z2u (z2k (z0f (le_refl _) (fun _=>z02 (le_refl _) (z2u (h _ _ _ _ _ (fun _=>le_refl _)) (fun _=>le_refl _) (fun _=>le_refl _))))) (fun _=>le_refl _) (fun _=>le_refl _)) (le_refl _))
theorem mg25 {i j:It} (h:i.Le j):∀ s,le (g25 i std s) (g25 j std s):=fun _=>z0f (v3n h _) (fun _=>z02 (z0f (v3n h _) (fun _=>le_refl _)) (z02 (le_refl _) (z2u (h _ _ _ _ _ (w9g h)) (fun _=>le_refl _) (fun _=>z0f (le_refl _) (fun _=>z2u (h _ _ _ _ _ (w9f h)) (fun _=>le_refl _) (fun _=>le_refl _))))))
theorem v95 {i j:It} (h:i.Le j):∀ s,le (g62 i std s) (g62 j std s):=fun _=>z0f (le_refl _) (fun _=>z02 (le_refl _) (z2u (h _ _ _ _ _ (fun _=>le_refl _)) (fun _=>le_refl _) (fun _=>le_refl _)))
theorem mg63 {i j:It} (h:i.Le j):∀ s,le (g63 i std s) (g63 j std s):=fun _=>z0f (h _ _ _ _ _ (fun _=>le_refl _)) (fun _=>le_refl _)
theorem mg29 {i j:It} (h:i.Le j):∀ s,le (g29 i std s) (g29 j std s):=fun _=>z0f (v95 h _) (fun _=>z02 (z0f (v95 h _) (fun _=>le_refl _)) (z0f (v96 h _) (fun _=>z02 (le_refl _) (z0f (mg63 h _) (fun _=>le_refl _)))))
theorem mg52 {i j:It} (h:i.Le j):∀ s,le (g52 i std s) (g52 j std s):=fun _=>z2u (h _ _ _ _ _ (fun _=>le_refl _)) (fun _=>le_refl _) (fun _=>le_refl _)
theorem v3l {i j:It} (h:i.Le j):∀ s,le (g56 i std s) (g56 j std s):=fun _=>z2u (h _ _ _ _ _ (fun _=>le_refl _)) (fun _=>le_refl _) (fun _=>le_refl _)
theorem mg70 {i j:It} (h:i.Le j):∀ s,le (g70 i std s) (g70 j std s):=fun _=>z0f (h _ _ _ _ _ (fun _=>le_refl _)) (fun _=>le_refl _)
theorem v5a {i j:It} (h:i.Le j):∀ s,le (g61 i std s) (g61 j std s):=fun _=>z0f (le_refl _) (fun _=>z2u (z2k (z02 (le_refl _) (z0f (mg52 h _) (fun _=>le_refl _)))) (fun _=>le_refl _) (fun _=>le_refl _))
theorem w85 {i j:It} (h:i.Le j):∀ s,le (w7b i std s) (w7b j std s):=fun _=>z2k (z02 (z2u (h _ _ _ _ _ (fun _=>le_refl _)) (fun _=>le_refl _) (fun _=>le_refl _)) (le_refl _))
theorem w86 {i j:It} (h:i.Le j):∀ s,le (w7c i std s) (w7c j std s):=fun _=>z2k (z02 (z0c (z0c (z0f (v3l h _) (fun _=>z02 (le_refl _) (z0f (h _ _ _ _ _ (fun _=>le_refl _)) (fun _=>le_refl _)))))) (le_refl _))
theorem v5c {i j:It} (h:i.Le j):∀ s,le (g54 i std s) (g54 j std s):=fun _=>z0f (le_refl _) (fun _=>z02 (le_refl _) (z2u (h _ _ _ _ _ (w86 h)) (fun _=>le_refl _) (fun _=>z0f (le_refl _) (fun _=>z2u (h _ _ _ _ _ (fun _=>le_refl _)) (fun _=>le_refl _) (fun _=>z0f (le_refl _) (fun _=>z0c (z2u (h _ _ _ _ _ (w85 h)) (fun _=>le_refl _) (fun _=>le_refl _))))))))
theorem w89 {i j:It} (h:i.Le j):∀ s,le (w7e i std s) (w7e j std s):=fun _=>z2k (z02 (z0c (z0c (z0c (z0f (mg70 h _) (fun _=>le_refl _))))) (le_refl _))
theorem v5d {i j:It} (h:i.Le j):∀ s,le (g35 i std s) (g35 j std s):=fun _=>z2u (v5c h _) (fun _=>le_refl _) (fun _=>z0f (le_refl _) (fun _=>z02 (le_refl _) (z0c (z0c (z0c (z0c (z0c (z0f (h _ _ _ _ _ (w89 h)) (fun _=>le_refl _)))))))))
theorem mg36 {i j:It} (h:i.Le j):∀ s,le (g36 i std s) (g36 j std s):=fun _=>z0f (v5d h _) (fun _=>z02 (le_refl _) (z0c (z0c (z0c (z0f (h _ _ _ _ _ (fun _=>le_refl _)) (fun _=>le_refl _))))))
theorem w5p {i j:It} (h:i.Le j):∀ s,le (x8y i std s) (x8y j std s):=fun _=>z2k (z02 (z0c (z0c (z0c (z0f (h _ _ _ _ _ (fun _=>le_refl _)) (fun _=>le_refl _))))) (le_refl _))
theorem v45 {i j:It} (h:i.Le j):∀ s,le (v3r i std s) (v3r j std s):=fun _=>z0c (z0c (z0c (z0f (h _ _ _ _ _ (w5p h)) (fun _=>le_refl _))))
theorem w5t {i j:It} (h:i.Le j):∀ s,le (x82 i std s) (x82 j std s):=fun _=>z2k (z02 (z0c (z0c (z0c (z0f (v45 h _) (fun _=>le_refl _))))) (le_refl _))
theorem v48 {i j:It} (h:i.Le j):∀ s,le (v3u i std s) (v3u j std s):=fun _=>z0c (z0c (z0c (z0f (h _ _ _ _ _ (w5t h)) (fun _=>le_refl _))))
theorem w81 {i j:It} (h:i.Le j):∀ s,le (w96 i std s) (w96 j std s):=fun _=>z0f (le_refl _) (fun _=>z0c (z0c (z0c (z0f (v48 h _) (fun _=>le_refl _)))))
theorem w5o {i j:It} (h:i.Le j):∀ s,le (x8x i std s) (x8x j std s):=fun _=>z2k (z02 (z0c (z0c (z0f (h _ _ _ _ _ (fun _=>le_refl _)) (fun _=>le_refl _)))) (le_refl _))
theorem v44 {i j:It} (h:i.Le j):∀ s,le (v3q i std s) (v3q j std s):=fun _=>z0c (z0c (z0f (h _ _ _ _ _ (w5o h)) (fun _=>le_refl _)))
theorem w5s {i j:It} (h:i.Le j):∀ s,le (x81 i std s) (x81 j std s):=fun _=>z2k (z02 (z0c (z0c (z0f (v44 h _) (fun _=>le_refl _)))) (le_refl _))
theorem v47 {i j:It} (h:i.Le j):∀ s,le (v3t i std s) (v3t j std s):=fun _=>z0c (z0c (z0f (h _ _ _ _ _ (w5s h)) (fun _=>le_refl _)))
theorem v5b {i j:It} (h:i.Le j):∀ s,le (v3w i std s) (v3w j std s):=fun _=>z0f (le_refl _) (fun _=>z0c (z0c (z0f (v47 h _) (fun _=>le_refl _))))
theorem w5u {i j:It} (h:i.Le j):∀ s,le (x83 i std s) (x83 j std s):=fun _=>z2k (z02 (z0c (z0c (z0f (h _ _ _ _ _ (fun _=>le_refl _)) (fun _=>le_refl _)))) (le_refl _))
theorem w82 {i j:It} (h:i.Le j):∀ s,le (w98 i std s) (w98 j std s):=fun _=>z0c (z0c (z0f (h _ _ _ _ _ (w5u h)) (fun _=>le_refl _)))
theorem w83 {i j:It} (h:i.Le j):∀ s,le (w69 i std s) (w69 j std s):=fun _=>z2k (z02 (z0c (z0c (z0f (h _ _ _ _ _ (fun _=>le_refl _)) (fun _=>le_refl _)))) (le_refl _))
theorem w84 {i j:It} (h:i.Le j):∀ s,le (w7a i std s) (w7a j std s):=fun _=>z2k (z02 (z0c (z0c (z0f (w82 h _) (fun _=>le_refl _)))) (le_refl _))
theorem mg86 {i j:It} (h:i.Le j):∀ s,le (g86 i std s) (g86 j std s):=fun _=>z0c (z0c (z0f (h _ _ _ _ _ (w84 h)) (fun _=>z0c (z0c (z0f (w82 h _) (fun _=>z0c (z0c (z0f (h _ _ _ _ _ (w83 h)) (fun _=>le_refl _)))))))))
theorem mg66 {i j:It} (h:i.Le j):∀ s,le (g66 i std s) (g66 j std s):=fun _=>z0c (z0c (z0f (mg86 h _) (fun _=>le_refl _)))
theorem v93 {i j:It} (h:i.Le j):∀ s,le (g71 i std s) (g71 j std s):=fun _=>z0f (h _ _ _ _ _ (fun _=>le_refl _)) (fun _=>z0c (z0c (z0f (mg66 h _) (fun _=>le_refl _))))
theorem w0x {i j:It} (h:i.Le j):∀ s,le (x1t i std s) (x1t j std s):=fun _=>z2k (z02 (z0f (h _ _ _ _ _ (fun _=>le_refl _)) (fun _=>le_refl _)) (le_refl _))
theorem w29 {i j:It} (h:i.Le j):∀ s,le (x7t i std s) (x7t j std s):=fun _=>z0f (h _ _ _ _ _ (w0x h)) (fun _=>le_refl _)
theorem w5q {i j:It} (h:i.Le j):∀ s,le (x8z i std s) (x8z j std s):=fun _=>z2k (z02 (z0f (h _ _ _ _ _ (fun _=>le_refl _)) (fun _=>le_refl _)) (le_refl _))
theorem w5r {i j:It} (h:i.Le j):∀ s,le (x80 i std s) (x80 j std s):=fun _=>z2k (z02 (z0f (w29 h _) (fun _=>le_refl _)) (le_refl _))
theorem v46 {i j:It} (h:i.Le j):∀ s,le (v3s i std s) (v3s j std s):=fun _=>z0f (h _ _ _ _ _ (w5r h)) (fun _=>z0f (w29 h _) (fun _=>z0f (h _ _ _ _ _ (w5q h)) (fun _=>le_refl _)))
theorem v49 {i j:It} (h:i.Le j):∀ s,le (v3v i std s) (v3v j std s):=fun _=>z0f (v46 h _) (fun _=>le_refl _)
theorem mg24 {i j:It} (h:i.Le j):∀ s,le (g24 i std s) (g24 j std s):=fun _=>z2u (v5c h _) (fun _=>z2u (le_refl _) (fun _=>le_refl _) (fun _=>z0f (le_refl _) (fun _=>z0c (z0c (z0c (z0c (z0c (z0f (w81 h _) (fun _=>z0c (z0c (z0f (v3l h _) (fun _=>z02 (le_refl _) (z2u (h _ _ _ _ _ (fun _=>le_refl _)) (fun _=>le_refl _) (fun _=>le_refl _)))))))))))))) (fun _=>z0f (le_refl _) (fun _=>z2u (le_refl _) (fun _=>le_refl _) (fun _=>z0f (le_refl _) (fun _=>z0c (z0c (z0c (z0c (z0c (z0f (w81 h _) (fun _=>z0c (z0c (z0f (v3l h _) (fun _=>z02 (le_refl _) (z2u (h _ _ _ _ _ (fun _=>le_refl _)) (fun _=>le_refl _) (fun _=>le_refl _)))))))))))))))
theorem v92 {i j:It} (h:i.Le j):∀ s,le (g73 i std s) (g73 j std s):=fun _=>z0f (h _ _ _ _ _ (fun _=>le_refl _)) (fun _=>z0c (z0c (z0f (v5b h _) (fun _=>le_refl _))))
theorem w9e {i j:It} (h:i.Le j):∀ s,le (w7j i std s) (w7j j std s):=fun _=>z2k (z02 (z0f (z2k (z0c (z0c (z0c (z0c (z2u (h _ _ _ _ _ (fun _=>le_refl _)) (fun _=>le_refl _) (fun _=>le_refl _))))))) (fun _=>le_refl _)) (le_refl _))
theorem mg26 {i j:It} (h:i.Le j):∀ s,le (g26 i std s) (g26 j std s):=fun _=>z2u (v5c h _) (fun _=>le_refl _) (fun _=>z0f (le_refl _) (fun _=>z02 (le_refl _) (z0c (z0f (h _ _ _ _ _ (w9e h)) (fun _=>le_refl _)))))
theorem mg72 {i j:It} (h:i.Le j):∀ s,le (g72 i std s) (g72 j std s):=fun _=>z0c (z0c (z0f (h _ _ _ _ _ (fun _=>le_refl _)) (fun _=>le_refl _)))
theorem w88 {i j:It} (h:i.Le j):∀ s,le (w7d i std s) (w7d j std s):=fun _=>z2k (z02 (z0c (z0c (z0c (z0c (z0c (z0f (z2k (z02 (z0c (z0f (v92 h _) (fun _=>le_refl _))) (le_refl _))) (fun _=>le_refl _))))))) (le_refl _))
theorem mg37 {i j:It} (h:i.Le j):∀ s,le (g37 i std s) (g37 j std s):=fun _=>z0f (v5d h _) (fun _=>z02 (le_refl _) (z0c (z0f (v93 h _) (fun _=>z0c (z0c (z0c (z0f (mg72 h _) (fun _=>z0c (z0c (z0c (z0c (z0c (z0c (z0f (h _ _ _ _ _ (w88 h)) (fun _=>le_refl _)))))))))))))))
theorem v94 {i j:It} (h:i.Le j):∀ s,le (g64 i std s) (g64 j std s):=fun _=>z0f (v93 h _) (fun _=>z0c (z0c (z0c (z0c (z0f (h _ _ _ _ _ (fun _=>le_refl _)) (fun _=>z02 (le_refl _) (z0c (z0f (v92 h _) (fun _=>le_refl _)))))))))
theorem mg31 {i j:It} (h:i.Le j):∀ s,le (g31 i std s) (g31 j std s):=fun _=>z0f (v5a h _) (fun _=>z02 (le_refl _) (z0f (v94 h _) (fun _=>le_refl _)))
theorem mg28 {i j:It} (h:i.Le j):∀ s,le (g28 i std s) (g28 j std s):=fun _=>z0f (v5a h _) (fun _=>z02 (le_refl _) (z0f (v3l h _) (fun _=>z02 (le_refl _) (z0f (h _ _ _ _ _ (fun _=>le_refl _)) (fun _=>le_refl _)))))
theorem w87 {i j:It} (h:i.Le j):∀ s,le (z8e i std s) (z8e j std s):=fun _=>z2k (z02 (z0f (z2k (z0c (z0c (z0c (z0c (z0c (z0c (z0c (z0c (z0c (z0c (z0c (z02 (le_refl _) (z0c (z0c (z0c (z0c (z0f (h _ _ _ _ _ (fun _=>le_refl _)) (fun _=>le_refl _))))))))))))))))))) (fun _=>le_refl _)) (le_refl _))
theorem mg49 {i j:It} (h:i.Le j):∀ s,le (g49 i std s) (g49 j std s):=fun _=>z0c (z0c (z0c (z0c (z0c (z0f (h _ _ _ _ _ (w87 h)) (fun _=>le_refl _))))))
theorem w9a {i j:It} (h:i.Le j):∀ s,le (w7f i std s) (w7f j std s):=fun _=>z2k (z02 (z0c (z0c (z0c (z0f (v49 h _) (fun _=>z0f (h _ _ _ _ _ (fun _=>le_refl _)) (fun _=>le_refl _)))))) (le_refl _))
theorem v97 {i j:It} (h:i.Le j):∀ s,le (g30 i std s) (g30 j std s):=fun _=>z0f (v5a h _) (fun _=>z02 (le_refl _) (z0f (v94 h _) (fun _=>z02 (le_refl _) (z0c (z0c (z0f (le_refl _) (fun _=>z0f (h _ _ _ _ _ (fun _=>le_refl _)) (fun _=>z0f (h _ _ _ _ _ (w9a h)) (fun _=>z0f (mg49 h _) (fun _=>le_refl _))))))))))
theorem mg14 {i j:It} (h:i.Le j):∀ s,le (g14 i std s) (g14 j std s):=fun _=>z0f (le_refl _) (fun _=>z0f (le_refl _) (fun _=>z0f (le_refl _) (fun _=>z0f (le_refl _) (fun _=>z0f (le_refl _) (fun _=>z0f (v5d h _) (fun _=>z0f (le_refl _) (fun _=>z0f (mg36 h _) (fun _=>z0f (le_refl _) (fun _=>z0f (mg24 h _) (fun _=>z0f (le_refl _) (fun _=>z0f (mg26 h _) (fun _=>z0f (le_refl _) (fun _=>z0f (mg37 h _) (fun _=>z0f (v97 h _) (fun _=>z0f (v97 h _) (fun _=>z0f (mg31 h _) (fun _=>z0f (mg28 h _) (fun _=>z0f (le_refl _) (fun _=>z02 (le_refl _) (z0f (mg33 h _) (fun _=>z0f (z2k (z02 (z0c (z0f (v3o h _) (fun _=>z02 (z0f (v3o h _) (fun _=>z02 (z0f (v98 h _) (fun _=>z02 (z0c (z0f (v3o h _) (fun _=>z02 (z02 (z0f (le_refl _) (fun _=>z0c (z0f (mg25 h _) (fun _=>z02 (z0f (v98 h _) (fun _=>z02 (z0f (mg29 h _) (fun _=>le_refl _)) (le_refl _))) (le_refl _))))) (le_refl _)) (le_refl _)))) (le_refl _))) (le_refl _))) (le_refl _)))) (le_refl _))) (fun _=>le_refl _))))))))))))))))))))))
end Go.Am
end
section
namespace Go.Am
theorem w97:g14 (itN 400) std ()=some (true,()):=by kernel_rfl
theorem v26:G14 std ()=some (true,()):=mg14 (w9q 400) () _ w97
end Go.Am
end
noncomputable section
namespace Go.Am
def g4 (it:It):(p:Prim)→(LD×(LD×Unit))→Option T0:=
 fun p x=>
 opt.bnd ((LD×(LD×T8))) _ (
 opt.run ((LD×(LD×T8))) (
 opt.bnd T0 _ (g23 it p (x.1,())) fun a=>
 opt.ask _ a.1 (
 opt.ret _ (x.1,(x.2.1,(Bool.true,())))) (
 opt.ask _ (p.cmp .gtr (p.ofNat (p.len x.2.1)) (14:Int)) (
 opt.ret _ (x.1,(x.2.1,(Bool.true,())))) (
 opt.bnd T1 _ (g24 it p (x.1,(x.2.1,()))) fun b=>
 opt.bnd T1 _ (g25 it p (x.1,(x.2.1,()))) fun c=>
 opt.ret _ (x.1,(x.2.1,((p.cmp .neq b.1 c.1),()))))))) fun d=>
 opt.ask _ d.2.2.1 (
 opt.bnd T0 _ (
 opt.run T0 (
 opt.bnd T0 _ (g23 it p (d.1,())) fun e=>
 opt.ask _ e.1 (
 opt.bnd T0 _ (g14 it p ()) fun f=>
 opt.ret _ (f.1,())) (
 opt.ask _ (p.cmp .gtr (p.ofNat (p.len d.2.1)) (14:Int)) (
 opt.bnd T0 _ (g14 it p ()) fun g=>
 opt.ret _ (g.1,())) (
 opt.ret _ (Bool.false,()))))) fun h=>
 opt.ret _ (h.1,())) (
 opt.bnd ((LD×T2)) _ (g26 it p (d.1,())) fun i=>
 opt.bnd T1 _ (g27 it p (d.1,())) fun j=>
 opt.ask _ (p.cmp .neq j.1 (0:Int)) (
 opt.bnd T0 _ (
 opt.run T0 (
 opt.bnd T1 _ (g27 it p (d.1,())) fun k=>
 opt.ask _ (p.cmp .eql i.2.1 k.1) (
 opt.ask _ (p.cmp .eql (p.ofNat (p.len i.1)) (0:Int)) (
 opt.bnd T0 _ (g14 it p ()) fun l=>
 opt.ret _ (l.1,())) (
 opt.ret _ (Bool.false,()))) (
 opt.ret _ (Bool.false,())))) fun m=>
 opt.ret _ (m.1,())) (
 opt.bnd T0 _ (
 opt.run T0 (
 opt.ask _ (p.cmp .eql i.2.1 (0:Int)) (
 opt.need _ (p.and Bool.true (p.and (p.leN (p.add 0 (p.len i.1)) (p.len i.1)) Bool.true))<|
 opt.bnd T1 _ (g25 it p (d.1,((p.cut i.1 0 (p.len i.1)),()))) fun n=>
 opt.ask _ (p.cmp .eql n.1 (0:Int)) (
 opt.bnd T0 _ (g14 it p ()) fun o=>
 opt.ret _ (o.1,())) (
 opt.ret _ (Bool.false,()))) (
 opt.ret _ (Bool.false,())))) fun q=>
 opt.ret _ (q.1,())))
def g5 (it:It):(p:Prim)→(LD×(LD×Unit))→Option T0:=
 fun p x=>
 opt.bnd ((LD×(LD×T8))) _ (
 opt.run ((LD×(LD×T8))) (
 opt.ask _ (p.cmp .gtr (p.ofNat (p.len x.1)) (14:Int)) (
 opt.ret _ (x.1,(x.2.1,(Bool.true,())))) (
 opt.ret _ (x.1,(x.2.1,((p.cmp .gtr (p.ofNat (p.len x.2.1)) (14:Int)),())))))) fun a=>
 opt.ask _ a.2.2.1 (
 opt.bnd T0 _ (g14 it p ()) fun b=>
 opt.ret _ (b.1,())) (
 opt.bnd T1 _ (g28 it p (a.1,(a.2.1,()))) fun c=>
 opt.bnd T1 _ (g29 it p (a.1,(a.2.1,()))) fun d=>
 opt.ask _ (p.cmp .neq c.1 d.1) (
 opt.ret _ (Bool.false,())) (
 opt.bnd ((LD×T2)) _ (g30 it p (a.1,())) fun e=>
 opt.bnd ((LD×T2)) _ (g31 it p (a.1,())) fun f=>
 opt.bnd T1 _ (g32 it p (a.1,())) fun g=>
 opt.ask _ (p.cmp .neq e.2.1 g.1) (
 opt.ret _ (Bool.false,())) (
 opt.ask _ (p.cmp .eql g.1 (0:Int)) (
 opt.bnd ((LD×T2)) _ (g33 it p (e.1,())) fun h=>
 opt.bnd T0 _ (
 opt.run T0 (
 opt.ask _ (p.cmp .eql h.2.1 (0:Int)) (
 opt.need _ (p.and (p.leN (p.add 0 (p.len h.1)) (p.len h.1)) (p.and Bool.true Bool.true))<|
 opt.bnd T0 _ (g21 it p ((p.cut h.1 0 (p.len h.1)),(a.1,()))) fun i=>
 opt.ask _ i.1 (
 opt.ask _ (p.cmp .eql f.2.1 (5:Int)) (
 opt.ask _ (p.cmp .eql (p.ofNat (p.len f.1)) (0:Int)) (
 opt.bnd T0 _ (g14 it p ()) fun j=>
 opt.ret _ (j.1,())) (
 opt.ret _ (Bool.false,()))) (
 opt.ret _ (Bool.false,()))) (
 opt.ret _ (Bool.false,()))) (
 opt.ret _ (Bool.false,())))) fun k=>
 opt.ret _ (k.1,())) (
 opt.ask _ (p.cmp .eql g.1 (13:Int)) (
 opt.bnd T0 _ (
 opt.run T0 (
 opt.ask _ (p.cmp .eql (p.ofNat (p.len e.1)) (0:Int)) (
 opt.ask _ (p.cmp .eql f.2.1 (0:Int)) (
 opt.bnd T1 _ (g29 it p (a.1,(f.1,()))) fun l=>
 opt.ask _ (p.cmp .eql l.1 (0:Int)) (
 opt.bnd T0 _ (g14 it p ()) fun m=>
 opt.ret _ (m.1,())) (
 opt.ret _ (Bool.false,()))) (
 opt.ret _ (Bool.false,()))) (
 opt.ret _ (Bool.false,())))) fun n=>
 opt.ret _ (n.1,())) (
 opt.bnd T0 _ (
 opt.run T0 (
 opt.ask _ (p.cmp .eql (p.ofNat (p.len e.1)) (0:Int)) (
 opt.ask _ (p.cmp .eql f.2.1 g.1) (
 opt.ask _ (p.cmp .eql (p.ofNat (p.len f.1)) (0:Int)) (
 opt.bnd T0 _ (g14 it p ()) fun o=>
 opt.ret _ (o.1,())) (
 opt.ret _ (Bool.false,()))) (
 opt.ret _ (Bool.false,()))) (
 opt.ret _ (Bool.false,())))) fun q=>
 opt.ret _ (q.1,()))))))
end Go.Am
end
section
namespace Go.Am
open T11
variable {fl:List Int→Bool}
section
variable {d:List (List Int)}
theorem w6p {l:List Int} {i:Nat} {n:Int} (h:l[i]?=some n):(z1z l)[i]?=some (eI n):=by rw [z1z,List.getElem?_map,h]; rfl
end
end Go.Am
end
section
namespace Go.Am
open T11
theorem y75 {N J S:Int} {l:List Vt} (h:z2x N J S l=0):l.length≤80∧1≤N∧N≤10∧1≤J∧J≤12∧0≤S∧S≤45∧∀ v∈l,¬ z6x N J v:=by
 unfold z2x at h
 by_cases a:80<l.length
 ·rw [if_pos a] at h; exact absurd h (by decide)
 rw [if_neg a] at h
 by_cases b:x85 N J S
 ·rw [if_pos b] at h; exact absurd h (by decide)
 rw [if_neg b] at h
 by_cases c:∃ v∈l,z6x N J v
 ·rw [if_pos c] at h; exact absurd h (by decide)
 unfold x85 at b
 exact ⟨by omega,by omega,by omega,by omega,by omega,by omega,by omega,fun v hv hb=>c ⟨v,hv,hb⟩⟩
def z1m (l:List Vt) (N J:Nat):List Int:=(List.range J).map fun (j:Nat)=>((z63 l N j:Nat):Int)
theorem y5j (l:List Vt) (N J:Nat):(z1m l N J).length=J:=by simp [z1m]
theorem y5k (l:List Vt) (N:Nat) {J j:Nat} (h:j<J):(z1m l N J)[j]?=some ((z63 l N j:Nat):Int):=by
 rw [z1m,List.getElem?_map,List.getElem?_range h]; rfl
theorem w32 {N J:Nat} {S:Int} {l:List Vt} (h:z2x N J S l=0):G16 std ((N:Int),((J:Int),(S,(z0k l,()))))=some (z1z (z1m l N J),((0:Int),())):=by
 obtain ⟨r1,r2,r3,r4,r5,r6,r7,r8⟩:=y75 h
 have h20:=x0l N J S l
 rw [h] at h20
 have key:=z7x (b:=x9a std) J (fun i=>(z1z ((z1m l N J).take i),((N:Int),((J:Int),(S,(z0k l,((i:Int),()))))))) (z1z (z1m l N J),()) (fun i hi=>by
  have hw:=z2j (i:=i) (by omega)
  have hlt:(i:Int)<(J:Int):=by omega
  have h47:=v24 N (by omega) J S l (by omega) i
  have et:z1z ((z1m l N J).take (i+1))=z1z ((z1m l N J).take i)++[eI ((z63 l N i:Nat):Int)]:=by
   rw [List.take_add_one,y5k l N hi]; simp [z1z]
  rw [et]
  have hAl:(z1z ((z1m l N J).take i)).length+1≤1000000:=by rw [z76,List.length_take]; omega
  have hAt:(z1z ((z1m l N J).take i)).take (z1z ((z1m l N J).take i)).length=z1z ((z1m l N J).take i):=List.take_length
  generalize z1z ((z1m l N J).take i)=A at hAl hAt⊢
  generalize z0k l=L at h47⊢
  simp only [x9a,z14,z15,hlt,h47,x6q,hAt,hAl,z0g,hw,eq_self,not_true,not_false_eq_true,decide_true,decide_false,Bool.not_true,Bool.not_false,Int.reduceLT,Int.reduceLE,Int.reduceNeg,Int.reduceGT,cond_true,cond_false,Int.reduceEq,Nat.le_refl,Bool.and_true,List.drop_zero,List.length_append,List.length_cons,List.length_nil,Nat.zero_add,List.take_succ_cons,List.take_zero]) (by
  have hn:¬ (J:Int)<(J:Int):=by omega
  have ht:(z1m l N J).take J=z1m l N J:=List.take_of_length_le (by rw [y5j]; exact Nat.le_refl _)
  simp only [x9a,z14,z15,hn,ht,eq_self,not_true,not_false_eq_true,decide_true,decide_false,Bool.not_true,Bool.not_false,Int.reduceLT,Int.reduceLE,Int.reduceNeg,Int.reduceGT,cond_true,cond_false,Int.reduceEq,Nat.le_refl,Bool.and_true,List.drop_zero])
 have key':z8b (x9a std) ([],((N:Int),((J:Int),(S,(z0k l,((0:Int),()))))))=some (z1z (z1m l N J),()):=key
 have ht:(z1z (z1m l N J)).take (z1z (z1m l N J)).length=z1z (z1m l N J):=List.take_length
 generalize z1z (z1m l N J)=R at key' ht⊢
 unfold G16
 simp only [z14,z15,h20,key',ht,ne_eq,eq_self,not_true,not_false_eq_true,decide_true,decide_false,Bool.not_true,Bool.not_false,Int.reduceLT,Int.reduceLE,Int.reduceNeg,Int.reduceGT,cond_true,cond_false,Int.reduceEq,Nat.le_refl,Bool.and_true,List.drop_zero]
theorem w71 {N J S:Int} {l:List Vt} (h:z2x N J S l≠0):G16 std (N,(J,(S,(z0k l,()))))=some ([],(z2x N J S l,())):=by
 have h20:=x0l N J S l
 unfold G16
 simp only [z14,z15,h20,h,ne_eq,eq_self,not_true,not_false_eq_true,decide_true,decide_false,Bool.not_true,Bool.not_false,Int.reduceLT,Int.reduceLE,Int.reduceNeg,Int.reduceGT,cond_true,cond_false,Int.reduceEq,Nat.le_refl,Bool.and_true,List.drop_zero]
def z3x (l:List Vt) (N:Nat) (S a b:Int) (j:Nat):Bool:=decide (((z63 l N j:Nat):Int)≤S)&&(z23 l j a b&&!z23 l j b a)
theorem w30 {N J:Nat} (S:Int) {l:List Vt} (hl:l.length≤1000) (hJ:J≤1000) (a b:Int):
  G50 std ((N:Int),((J:Int),(S,(z0k l,(z1z (z1m l N J),(a,(b,())))))))=some (((cnt J (z3x l N S a b):Nat):Int),()):=by
 have key:=z7x (b:=x0c std) J (fun j=>((N:Int),((J:Int),(S,(z0k l,(z1z (z1m l N J),(a,(b,(((cnt j (z3x l N S a b):Nat):Int),((j:Int),())))))))))) (((cnt J (z3x l N S a b):Nat):Int),()) (fun j hj=>by
  have hw:=z2j (i:=j) (by omega)
  have hlt:(j:Int)<(J:Int):=by omega
  have h0:(0:Int)≤j:=by omega
  have hle:=x8u j (z3x l N S a b)
  have hw2:=z2j (i:=cnt j (z3x l N S a b)) (by omega)
  have gs:=w6p (y5k l N hj)
  have g1:=x3y N J S l hl j a b
  have g2:=x3y N J S l hl j b a
  have p1:=y2n l j a b
  have p2:=y2n l j b a
  rw [y01]
  have ew:z3x l N S a b j=(decide (((z63 l N j:Nat):Int)≤S)&&(z23 l j a b&&!z23 l j b a)):=rfl
  rw [ew]
  generalize z0k l=L at g1 g2⊢
  generalize z1z (z1m l N J)=SB at gs⊢
  generalize cnt j (z3x l N S a b)=n at hw2⊢
  have hx2:((vts l j b a l.length:Nat):Int)≥0:=by omega
  generalize ((vts l j a b l.length:Nat):Int)=x1 at g1 p1
  generalize ((vts l j b a l.length:Nat):Int)=x2 at g2 p2 hx2
  by_cases hs:((z63 l N j:Nat):Int)≤S
  ·cases h1:z23 l j a b
   ·rw [h1] at p1
    have p1:=of_decide_eq_false p1
    simp only [x0c,z14,z15,hlt,h0,ge_iff_le,gs,z1u,z6d,hs,g1,p1,z0g,hw,eq_self,not_true,not_false_eq_true,decide_true,decide_false,Bool.not_true,Bool.not_false,Int.reduceLT,Int.reduceLE,Int.reduceNeg,Int.reduceGT,cond_true,cond_false,Int.reduceEq,Nat.le_refl,Bool.and_true,List.drop_zero,Bool.and_false,Bool.false_and,o1,Nat.add_zero]
   ·rw [h1] at p1
    have p1:=of_decide_eq_true p1
    cases h2:z23 l j b a
    ·rw [h2] at p2
     have p2:=of_decide_eq_false p2
     have p3:x2=0:=by omega
     simp only [x0c,z14,z15,hlt,h0,ge_iff_le,gs,z1u,z6d,hs,g1,g2,p1,p3,z0g,hw,hw2,eq_self,not_true,not_false_eq_true,decide_true,decide_false,Bool.not_true,Bool.not_false,Int.reduceLT,Int.reduceLE,Int.reduceNeg,Int.reduceGT,cond_true,cond_false,Int.reduceEq,Nat.le_refl,Bool.and_true,List.drop_zero,Bool.and_self,o1]
    ·rw [h2] at p2
     have p2:=of_decide_eq_true p2
     have p3:¬ x2=0:=by omega
     simp only [x0c,z14,z15,hlt,h0,ge_iff_le,gs,z1u,z6d,hs,g1,g2,p1,p3,z0g,hw,eq_self,not_true,not_false_eq_true,decide_true,decide_false,Bool.not_true,Bool.not_false,Int.reduceLT,Int.reduceLE,Int.reduceNeg,Int.reduceGT,cond_true,cond_false,Int.reduceEq,Nat.le_refl,Bool.and_true,List.drop_zero,Bool.and_false,o1,Nat.add_zero]
  ·simp only [x0c,z14,z15,hlt,h0,ge_iff_le,gs,z1u,z6d,hs,z0g,hw,eq_self,not_true,not_false_eq_true,decide_true,decide_false,Bool.not_true,Bool.not_false,Int.reduceLT,Int.reduceLE,Int.reduceNeg,Int.reduceGT,cond_true,cond_false,Int.reduceEq,Nat.le_refl,Bool.and_true,List.drop_zero,Bool.false_and,o1,Nat.add_zero]) (by
  have hn:¬ (J:Int)<(J:Int):=by omega
  simp only [x0c,z14,z15,hn,eq_self,not_true,not_false_eq_true,decide_true,decide_false,Bool.not_true,Bool.not_false,Int.reduceLT,Int.reduceLE,Int.reduceNeg,Int.reduceGT,cond_true,cond_false,Int.reduceEq,Nat.le_refl,Bool.and_true,List.drop_zero])
 have key':z8b (x0c std) ((N:Int),((J:Int),(S,(z0k l,(z1z (z1m l N J),(a,(b,((0:Int),((0:Int),())))))))))=some (((cnt J (z3x l N S a b):Nat):Int),()):=key
 unfold G50
 simp only [z14,z15,key']
def beK (l:List Vt) (N J:Nat) (S:Int) (i k:Nat):Bool:=
 !decide (k=i)&&(decide (cnt J (z3x l N S k i)<cnt J (z3x l N S i k))||(decide (cnt J (z3x l N S i k)=cnt J (z3x l N S k i))&&decide (i<k)))
theorem w2o {N J:Nat} (S:Int) {l:List Vt} (hl:l.length≤1000) (hJ:J≤1000) (hN:N≤1000) (out:List (List D)) (i:Nat) (hi:i≤1000):
  z8b (y77 std) (out,([],((N:Int),((J:Int),(S,(z0k l,(z1z (z1m l N J),((i:Int),((0:Int),())))))))))=
   some (out,(z1z (toI ((List.range N).filter (beK l N J S i))),((N:Int),((J:Int),(S,(z0k l,(z1z (z1m l N J),((i:Int),())))))))):=by
 exact z7x (b:=y77 std) N (fun k=>(out,(z1z (toI ((List.range k).filter (beK l N J S i))),((N:Int),((J:Int),(S,(z0k l,(z1z (z1m l N J),((i:Int),((k:Int),())))))))))) (out,(z1z (toI ((List.range N).filter (beK l N J S i))),((N:Int),((J:Int),(S,(z0k l,(z1z (z1m l N J),((i:Int),())))))))) (fun k hk=>by
  have hw:=z2j (i:=k) (by omega)
  have hlt:(k:Int)<(N:Int):=by omega
  have h0:(0:Int)≤k:=by omega
  have g1:=w30 (N:=N) (J:=J) S hl hJ i k
  have g2:=w30 (N:=N) (J:=J) S hl hJ k i
  have hfl:((List.range k).filter (beK l N J S i)).length≤k:=by
   have:=List.length_filter_le (beK l N J S i) (List.range k)
   rw [List.length_range] at this; exact this
  have hs:toI ((List.range (k+1)).filter (beK l N J S i))=toI ((List.range k).filter (beK l N J S i))++(if beK l N J S i k=true then [(k:Int)] else []):=by
   rw [List.range_succ,List.filter_append,x53]
   congr 1
   cases hb:beK l N J S i k<;>simp [hb,toI]
  rw [hs]
  have eb:beK l N J S i k=(!decide (k=i)&&(decide (cnt J (z3x l N S k i)<cnt J (z3x l N S i k))||(decide (cnt J (z3x l N S i k)=cnt J (z3x l N S k i))&&decide (i<k)))):=rfl
  rw [eb]
  have hAl:(z1z (toI ((List.range k).filter (beK l N J S i)))).length+1≤1000000:=by rw [z76,x0q]; omega
  have hAt:(z1z (toI ((List.range k).filter (beK l N J S i)))).take (z1z (toI ((List.range k).filter (beK l N J S i)))).length=z1z (toI ((List.range k).filter (beK l N J S i))):=List.take_length
  have hap:z1z (toI ((List.range k).filter (beK l N J S i))++[(k:Int)])=z1z (toI ((List.range k).filter (beK l N J S i)))++[eI k]:=by simp [z1z]
  generalize toI ((List.range k).filter (beK l N J S i))=B at hAl hAt hap⊢
  generalize z0k l=L at g1 g2⊢
  generalize z1z (z1m l N J)=SB at g1 g2⊢
  generalize cnt J (z3x l N S i k)=x at g1⊢
  generalize cnt J (z3x l N S k i)=y at g2⊢
  by_cases e1:k=i
  ·subst e1
   simp only [y77,z14,z15,hlt,z0g,hw,eq_self,not_true,not_false_eq_true,decide_true,decide_false,Bool.not_true,Bool.not_false,Int.reduceLT,Int.reduceLE,Int.reduceNeg,Int.reduceGT,cond_true,cond_false,Int.reduceEq,Nat.le_refl,Bool.and_true,List.drop_zero,Bool.false_and,List.append_nil]
  have e1':¬ (k:Int)=(i:Int):=by omega
  by_cases e2:y<x
  ·have e2':(x:Int)>(y:Int):=by omega
   simp only [e1,e2,eq_self,not_true,not_false_eq_true,decide_true,decide_false,Bool.not_true,Bool.not_false,Int.reduceLT,Int.reduceLE,Int.reduceNeg,Int.reduceGT,cond_true,cond_false,Int.reduceEq,Nat.le_refl,Bool.and_true,List.drop_zero,Bool.true_or,Bool.and_self,if_true,hap]
   generalize z1z B=BB at hAl hAt⊢
   simp only [y77,z14,z15,hlt,e1',g1,g2,e2',x6q,hAt,hAl,z0g,hw,eq_self,not_true,not_false_eq_true,decide_true,decide_false,Bool.not_true,Bool.not_false,Int.reduceLT,Int.reduceLE,Int.reduceNeg,Int.reduceGT,cond_true,cond_false,Int.reduceEq,Nat.le_refl,Bool.and_true,List.drop_zero,List.length_append,List.length_cons,List.length_nil,Nat.zero_add,List.take_succ_cons,List.take_zero]
  have e2':¬ (x:Int)>(y:Int):=by omega
  by_cases e3:x=y
  ·have e3':(x:Int)=(y:Int):=by omega
   by_cases e4:i<k
   ·have e4':(i:Int)<(k:Int):=by omega
    simp only [e1,e2,e3,e4,Nat.lt_irrefl,Bool.or_true,Bool.or_false,eq_self,not_true,not_false_eq_true,decide_true,decide_false,Bool.not_true,Bool.not_false,Int.reduceLT,Int.reduceLE,Int.reduceNeg,Int.reduceGT,cond_true,cond_false,Int.reduceEq,Nat.le_refl,Bool.and_true,List.drop_zero,Bool.false_or,Bool.and_self,if_true,hap]
    generalize z1z B=BB at hAl hAt⊢
    simp only [y77,z14,z15,hlt,e1',g1,g2,e2',e3',e4',x6q,hAt,hAl,z0g,hw,Int.lt_irrefl,gt_iff_lt,eq_self,not_true,not_false_eq_true,decide_true,decide_false,Bool.not_true,Bool.not_false,Int.reduceLT,Int.reduceLE,Int.reduceNeg,Int.reduceGT,cond_true,cond_false,Int.reduceEq,Nat.le_refl,Bool.and_true,List.drop_zero,List.length_append,List.length_cons,List.length_nil,Nat.zero_add,List.take_succ_cons,List.take_zero]
   ·have e4':¬ (i:Int)<(k:Int):=by omega
    simp only [e1,e2,e3,e4,Nat.lt_irrefl,Bool.or_true,Bool.or_false,eq_self,not_true,not_false_eq_true,decide_true,decide_false,Bool.not_true,Bool.not_false,Int.reduceLT,Int.reduceLE,Int.reduceNeg,Int.reduceGT,cond_true,cond_false,Int.reduceEq,Nat.le_refl,Bool.and_true,List.drop_zero,Bool.and_false,Bool.false_or,Bool.false_eq_true,if_false,List.append_nil]
    simp only [y77,z14,z15,hlt,e1',g1,g2,e2',e3',e4',z0g,hw,Int.lt_irrefl,gt_iff_lt,eq_self,not_true,not_false_eq_true,decide_true,decide_false,Bool.not_true,Bool.not_false,Int.reduceLT,Int.reduceLE,Int.reduceNeg,Int.reduceGT,cond_true,cond_false,Int.reduceEq,Nat.le_refl,Bool.and_true,List.drop_zero]
  ·have e3':¬ (x:Int)=(y:Int):=by omega
   simp only [e1,e2,e3,eq_self,not_true,not_false_eq_true,decide_true,decide_false,Bool.not_true,Bool.not_false,Int.reduceLT,Int.reduceLE,Int.reduceNeg,Int.reduceGT,cond_true,cond_false,Int.reduceEq,Nat.le_refl,Bool.and_true,List.drop_zero,Bool.and_false,Bool.false_and,Bool.false_or,Bool.false_eq_true,if_false,List.append_nil]
   simp only [y77,z14,z15,hlt,e1',g1,g2,e2',e3',z0g,hw,eq_self,not_true,not_false_eq_true,decide_true,decide_false,Bool.not_true,Bool.not_false,Int.reduceLT,Int.reduceLE,Int.reduceNeg,Int.reduceGT,cond_true,cond_false,Int.reduceEq,Nat.le_refl,Bool.and_true,List.drop_zero]) (by
  have hn:¬ (N:Int)<(N:Int):=by omega
  simp only [y77,z14,z15,hn,eq_self,not_true,not_false_eq_true,decide_true,decide_false,Bool.not_true,Bool.not_false,Int.reduceLT,Int.reduceLE,Int.reduceNeg,Int.reduceGT,cond_true,cond_false,Int.reduceEq,Nat.le_refl,Bool.and_true,List.drop_zero])
theorem v25 {N J:Nat} {S:Int} {l:List Vt} (h:z2x N J S l=0):G18 std ((N:Int),((J:Int),(S,(z0k l,()))))=some (z2a fz (dOf (beK l N J S) N),((0:Int),())):=by
 obtain ⟨r1,r2,r3,r4,r5,r6,r7,r8⟩:=y75 h
 have h20:=x0l N J S l
 rw [h] at h20
 have h16:=w32 h
 have hdl:(dOf (beK l N J S) N).length=N:=by simp [dOf]
 have key:=z7x (b:=x89 std) N (fun i=>(z2a fz ((dOf (beK l N J S) N).take i),((N:Int),((J:Int),(S,(z0k l,(z1z (z1m l N J),((i:Int),())))))))) (z2a fz (dOf (beK l N J S) N),()) (fun i hi=>by
  have hw:=z2j (i:=i) (by omega)
  have hlt:(i:Int)<(N:Int):=by omega
  have h2:=fun out=>w2o (N:=N) (J:=J) S (l:=l) (by omega) (by omega) (by omega) out i (by omega)
  have hget:(dOf (beK l N J S) N)[i]?=some (toI ((List.range N).filter (beK l N J S i))):=by rw [dOf,List.getElem?_map,List.getElem?_range hi]; rfl
  have et:z2a fz ((dOf (beK l N J S) N).take (i+1))=z2a fz ((dOf (beK l N J S) N).take i)++[eLf fz (toI ((List.range N).filter (beK l N J S i)))]:=by
   rw [List.take_add_one,hget]; simp [z2a]
  rw [et]
  have hAl:(z2a fz ((dOf (beK l N J S) N).take i)).length+1≤1000000:=by rw [z75,List.length_take]; omega
  have hAt:(z2a fz ((dOf (beK l N J S) N).take i)).take (z2a fz ((dOf (beK l N J S) N).take i)).length=z2a fz ((dOf (beK l N J S) N).take i):=List.take_length
  have hRt:(z1z (toI ((List.range N).filter (beK l N J S i)))).take (z1z (toI ((List.range N).filter (beK l N J S i)))).length=z1z (toI ((List.range N).filter (beK l N J S i))):=List.take_length
  have hrow:=w8u (toI ((List.range N).filter (beK l N J S i)))
  generalize z2a fz ((dOf (beK l N J S) N).take i)=A at hAl hAt⊢
  generalize z1z (toI ((List.range N).filter (beK l N J S i)))=R at h2 hRt hrow⊢
  generalize z0k l=L at h2⊢
  generalize z1z (z1m l N J)=SB at h2⊢
  simp only [x89,z14,z15,hlt,h2,hRt,hrow,hAt,hAl,z0g,hw,eq_self,not_true,not_false_eq_true,decide_true,decide_false,Bool.not_true,Bool.not_false,Int.reduceLT,Int.reduceLE,Int.reduceNeg,Int.reduceGT,cond_true,cond_false,Int.reduceEq,Nat.le_refl,Bool.and_true,List.drop_zero,List.length_append,List.length_cons,List.length_nil,Nat.zero_add,List.take_succ_cons,List.take_zero]) (by
  have hn:¬ (N:Int)<(N:Int):=by omega
  have ht:(dOf (beK l N J S) N).take N=dOf (beK l N J S) N:=List.take_of_length_le (by omega)
  simp only [x89,z14,z15,hn,ht,eq_self,not_true,not_false_eq_true,decide_true,decide_false,Bool.not_true,Bool.not_false,Int.reduceLT,Int.reduceLE,Int.reduceNeg,Int.reduceGT,cond_true,cond_false,Int.reduceEq,Nat.le_refl,Bool.and_true,List.drop_zero])
 have key':z8b (x89 std) ([],((N:Int),((J:Int),(S,(z0k l,(z1z (z1m l N J),((0:Int),())))))))=some (z2a fz (dOf (beK l N J S) N),()):=key
 have ht:(z2a fz (dOf (beK l N J S) N)).take (z2a fz (dOf (beK l N J S) N)).length=z2a fz (dOf (beK l N J S) N):=List.take_length
 generalize z2a fz (dOf (beK l N J S) N)=R at key' ht⊢
 unfold G18
 simp only [z14,z15,h20,h16,key',ht,ne_eq,eq_self,not_true,not_false_eq_true,decide_true,decide_false,Bool.not_true,Bool.not_false,Int.reduceLT,Int.reduceLE,Int.reduceNeg,Int.reduceGT,cond_true,cond_false,Int.reduceEq,Nat.le_refl,Bool.and_true,List.drop_zero]
theorem w7z {N J S:Int} {l:List Vt} (h:z2x N J S l≠0):G18 std (N,(J,(S,(z0k l,()))))=some ([],(z2x N J S l,())):=by
 have h20:=x0l N J S l
 unfold G18
 simp only [z14,z15,h20,h,ne_eq,eq_self,not_true,not_false_eq_true,decide_true,decide_false,Bool.not_true,Bool.not_false,Int.reduceLT,Int.reduceLE,Int.reduceNeg,Int.reduceGT,cond_true,cond_false,Int.reduceEq,Nat.le_refl,Bool.and_true,List.drop_zero]
end Go.Am
end
section
namespace Go.Am
open T11
structure x5i (l:List Vt) (j:Int) (s:JM×JM):Prop where
 nd1:(s.1.map (·.1)).Nodup
 nd2:(s.2.map (·.1)).Nodup
 slip:∀ c d,z3e s.2 (c,d)=if c<d∧z23 l j c d=true∧z23 l j d c=true then some 1 else none
 said:∀ c d,z3e s.1 (c,d)=if c<d then (if z23 l j c d=true then (if z23 l j d c=true then none else some 1) else if z23 l j d c=true then some (-1) else none) else none
theorem x5i.nil (j:Int):x5i [] j ([],[]) where
 nd1:=List.nodup_nil
 nd2:=List.nodup_nil
 slip:=fun c d=>by simp [z23,z3e]
 said:=fun c d=>by simp [z23,z3e]
theorem x2a (l:List Vt) (v:Vt) (j c d:Int):z23 (l++[v]) j c d=(z23 l j c d||decide (v=(j,c,d))):=by
 unfold z23
 rw [←Bool.decide_or,decide_eq_decide,List.mem_append,List.mem_singleton]
 exact or_congr Iff.rfl eq_comm
theorem x5i.other {l:List Vt} {j:Int} {s:JM×JM} (h:x5i l j s) {v:Vt} (hv:v.1≠j):x5i (l++[v]) j s:=by
 have e:∀ c d,z23 (l++[v]) j c d=z23 l j c d:=fun c d=>by
  rw [x2a,decide_eq_false (fun e=>hv (by rw [e])),Bool.or_false]
 exact ⟨h.nd1,h.nd2,fun c d=>by rw [e,e]; exact h.slip c d,fun c d=>by rw [e,e]; exact h.said c d⟩
theorem x5i.hear {l:List Vt} {j:Int} {s:JM×JM} (h:x5i l j s) {a b:Int} (hab:a≠b):x5i (l++[(j,a,b)]) j (z99 s a b):=by
 obtain ⟨sd,sl⟩:=s
 have e:∀ c d,z23 (l++[(j,a,b)]) j c d=(z23 l j c d||(decide (a=c)&&decide (b=d))):=fun c d=>by
  rw [x2a, ←Bool.decide_and]
  congr 1
  rw [decide_eq_decide]
  simp
 obtain ⟨x,y,w,hxy,hp,hw,hx⟩:∃ x y w,x<y∧prJ a b=(x,y)∧wdJ a b=w∧((w=1∧a=x∧b=y)∨(w= -1∧a=y∧b=x)):=by
  by_cases hc:a>b
  ·exact ⟨b,a, -1,hc,by rw [prJ,if_pos hc],by rw [wdJ,if_pos hc], .inr ⟨rfl,rfl,rfl⟩⟩
  ·exact ⟨a,b,1,by omega,by rw [prJ,if_neg hc],by rw [wdJ,if_neg hc], .inl ⟨rfl,rfl,rfl⟩⟩
 have s2:=h.slip x y
 have s1:=h.said x y
 simp only [hxy,true_and,if_true] at s1 s2
 have hne:∀ c d,(c,d)≠(x,y)→c<d→z23 (l++[(j,a,b)]) j c d=z23 l j c d∧z23 (l++[(j,a,b)]) j d c=z23 l j d c:=fun c d hn hcd=>by
  rw [e,e]
  have n1:¬ (c=x∧d=y):=fun ⟨h1,h2⟩=>hn (by rw [h1,h2])
  rcases hx with ⟨_,rfl,rfl⟩|⟨_,rfl,rfl⟩
  ·have q1:(decide (a=c)&&decide (b=d))=false:=by rw [←Bool.decide_and]; exact decide_eq_false (by omega)
   have q2:(decide (a=d)&&decide (b=c))=false:=by rw [←Bool.decide_and]; exact decide_eq_false (by omega)
   rw [q1,q2,Bool.or_false,Bool.or_false]; exact ⟨rfl,rfl⟩
  ·have q1:(decide (a=c)&&decide (b=d))=false:=by rw [←Bool.decide_and]; exact decide_eq_false (by omega)
   have q2:(decide (a=d)&&decide (b=c))=false:=by rw [←Bool.decide_and]; exact decide_eq_false (by omega)
   rw [q1,q2,Bool.or_false,Bool.or_false]; exact ⟨rfl,rfl⟩
 have hnew:(w=1∧z23 (l++[(j,a,b)]) j x y=true∧z23 (l++[(j,a,b)]) j y x=z23 l j y x)∨(w= -1∧z23 (l++[(j,a,b)]) j y x=true∧z23 (l++[(j,a,b)]) j x y=z23 l j x y):=by
  rcases hx with ⟨hw,rfl,rfl⟩|⟨hw,rfl,rfl⟩
  ·refine .inl ⟨hw,by rw [e]; simp,?_⟩
   rw [e,decide_eq_false (show ¬ a=b by omega),Bool.false_and,Bool.or_false]
  ·refine .inr ⟨hw,by rw [e]; simp,?_⟩
   rw [e,decide_eq_false (show ¬ a=b by omega),Bool.false_and,Bool.or_false]
 have fin:∀ (sd' sl':JM),(sd'.map (·.1)).Nodup→(sl'.map (·.1)).Nodup→(∀ c d,(c,d)≠(x,y)→z3e sd' (c,d)=z3e sd (c,d))→(∀ c d,(c,d)≠(x,y)→z3e sl' (c,d)=z3e sl (c,d))→
   (z3e sl' (x,y)=if z23 (l++[(j,a,b)]) j x y=true∧z23 (l++[(j,a,b)]) j y x=true then some 1 else none)→
   (z3e sd' (x,y)=if z23 (l++[(j,a,b)]) j x y=true then (if z23 (l++[(j,a,b)]) j y x=true then none else some 1) else if z23 (l++[(j,a,b)]) j y x=true then some (-1) else none)→
   x5i (l++[(j,a,b)]) j (sd',sl'):=by
  intro sd' sl' n1 n2 o1 o2 v2 v1
  refine ⟨n1,n2,fun c d=>?_,fun c d=>?_⟩
  ·by_cases hq:(c,d)=(x,y)
   ·obtain ⟨rfl,rfl⟩:=Prod.mk.inj hq
    rw [v2]; simp only [hxy,true_and]
   ·rw [o2 c d hq]
    have:=h.slip c d
    by_cases hcd:c<d
    ·rw [(hne c d hq hcd).1,(hne c d hq hcd).2]; exact this
    ·rw [this,if_neg (fun q=>hcd q.1),if_neg (fun q=>hcd q.1)]
  ·by_cases hq:(c,d)=(x,y)
   ·obtain ⟨rfl,rfl⟩:=Prod.mk.inj hq
    rw [v1]; simp only [hxy,if_true]
   ·rw [o1 c d hq]
    have:=h.said c d
    by_cases hcd:c<d
    ·rw [(hne c d hq hcd).1,(hne c d hq hcd).2]; exact this
    ·rw [this,if_neg hcd,if_neg hcd]
 have nd1:(sd.map (·.1)).Nodup:=h.nd1
 have nd2:(sl.map (·.1)).Nodup:=h.nd2
 have w8a:∀ (m:JM) (v:Int) c d,(c,d)≠(x,y)→z3e (x0h m (x,y) v) (c,d)=z3e m (c,d):=fun m v c d hq=>by rw [x3t,if_neg hq]
 have putS:∀ (m:JM) (v:Int),z3e (x0h m (x,y) v) (x,y)=some v:=fun m v=>by rw [x3t,if_pos rfl]
 have delO:∀ (m:JM),(m.map (·.1)).Nodup→∀ c d,(c,d)≠(x,y)→z3e (x5f m (x,y)) (c,d)=z3e m (c,d):=fun m hm c d hq=>by rw [y78 _ hm,if_neg hq]
 have delS:∀ (m:JM),(m.map (·.1)).Nodup→z3e (x5f m (x,y)) (x,y)=none:=fun m hm=>by rw [y78 _ hm,if_pos rfl]
 have z0:¬ (0:Int)>0:=by decide
 have z1:(1:Int)>0:=by decide
 unfold z99
 simp only [hp,hw]
 cases hA:z23 l j x y<;>cases hB:z23 l j y x<;>rw [hA,hB] at s1 s2<;>simp only [Bool.false_eq_true,if_true,if_false,and_true,and_false,and_self,true_and,false_and] at s1 s2
 ·
  simp only [s1,s2,Option.getD_none,z0,if_false]
  refine fin _ _ (z7o nd1 _ _) nd2 (w8a sd w) (fun _ _ _=>rfl) ?_ ?_
  ·rw [s2]
   rcases hnew with ⟨_,h1,h2⟩|⟨_,h1,h2⟩
   ·rw [h1,h2,hB]; simp
   ·rw [h1,h2,hA]; simp
  ·rw [putS]
   rcases hnew with ⟨rfl,h1,h2⟩|⟨rfl,h1,h2⟩
   ·rw [h1,h2,hB]; simp
   ·rw [h1,h2,hA]; simp
 ·
  simp only [s1,s2,Option.getD_none,z0,if_false]
  rcases hnew with ⟨rfl,h1,h2⟩|⟨rfl,h1,h2⟩
  ·rw [if_pos (by decide)]
   refine fin _ _ ((nd1.sublist (y79 _ _))) (z7o nd2 _ _) (delO sd nd1) (w8a sl 1) ?_ ?_
   ·rw [putS,h1,h2,hB]; simp
   ·rw [delS sd nd1,h1,h2,hB]; simp
  ·rw [if_neg (by decide)]
   refine fin _ _ (z7o nd1 _ _) nd2 (w8a sd _) (fun _ _ _=>rfl) ?_ ?_
   ·rw [s2,h1,h2,hA]; simp
   ·rw [putS,h1,h2,hA]; simp
 ·simp only [s1,s2,Option.getD_none,z0,if_false]
  rcases hnew with ⟨rfl,h1,h2⟩|⟨rfl,h1,h2⟩
  ·rw [if_neg (by decide)]
   refine fin _ _ (z7o nd1 _ _) nd2 (w8a sd _) (fun _ _ _=>rfl) ?_ ?_
   ·rw [s2,h1,h2,hB]; simp
   ·rw [putS,h1,h2,hB]; simp
  ·rw [if_pos (by decide)]
   refine fin _ _ ((nd1.sublist (y79 _ _))) (z7o nd2 _ _) (delO sd nd1) (w8a sl 1) ?_ ?_
   ·rw [putS,h1,h2,hA]; simp
   ·rw [delS sd nd1,h1,h2,hA]; simp
 ·
  simp only [s1,s2,Option.getD_some,z1,if_true]
  refine fin _ _ nd1 nd2 (fun _ _ _=>rfl) (fun _ _ _=>rfl) ?_ ?_
  ·rw [s2]
   rcases hnew with ⟨_,h1,h2⟩|⟨_,h1,h2⟩
   ·rw [h1,h2,hB]; simp
   ·rw [h1,h2,hA]; simp
  ·rw [s1]
   rcases hnew with ⟨_,h1,h2⟩|⟨_,h1,h2⟩
   ·rw [h1,h2,hB]; simp
   ·rw [h1,h2,hA]; simp
end Go.Am
end
section
namespace Go.Am
open T11
theorem w06 {j:Int}:∀ (r l:List Vt) (s:JM×JM),x5i l j s→(∀ v∈r,v.2.1≠v.2.2)→x5i (l++r) j (z5n j s r):=by
 intro r
 induction r with
 |nil=>intro l s h _; rw [List.append_nil]; exact h
 |cons v r ih=>
  intro l s h hv
  have e:l++v::r=(l++[v])++r:=by simp
  rw [e]
  obtain ⟨v1,v2,v3⟩:=v
  by_cases hj:v1=j
  ·subst hj
   have:=ih (l++[(v1,v2,v3)]) (z99 s v2 v3) (h.hear (hv (v1,v2,v3) (by simp))) fun v hm=>hv v (List.mem_cons_of_mem _ hm)
   have e2:z5n v1 s ((v1,v2,v3)::r)=z5n v1 (z99 s v2 v3) r:=by simp [z5n]
   rw [e2]; exact this
  ·have:=ih (l++[(v1,v2,v3)]) s (h.other hj) fun v hm=>hv v (List.mem_cons_of_mem _ hm)
   have e2:z5n j s ((v1,v2,v3)::r)=z5n j s r:=by simp [z5n,hj]
   rw [e2]; exact this
theorem y9k {l:List Vt} (h:∀ v∈l,v.2.1≠v.2.2) (j:Int):x5i l j (z1g l j):=by
 have:=w06 l [] ([],[]) (x5i.nil j) h
 rwa [List.nil_append] at this
def w24 (P:Nat→Nat→Bool) (n:Nat):List (Int×Int):=(List.range n).flatMap fun i=>((List.range i).filter (P i)).map fun (k:Nat)=>((k:Int),(i:Int))
theorem y88 (P:Nat→Nat→Bool) (n:Nat):w24 P (n+1)=w24 P n++((List.range n).filter (P n)).map fun (k:Nat)=>((k:Int),(n:Int)):=by
 unfold w24
 rw [List.range_succ,List.flatMap_append]
 simp
theorem w0r (P:Nat→Nat→Bool) (n:Nat):(w24 P n).length=sm n fun i=>cnt i (P i):=by
 induction n with
 |zero=>rfl
 |succ n ih=>rw [y88,List.length_append,ih,List.length_map,z5g,x42]
theorem x2h {P:Nat→Nat→Bool} {n:Nat} {p:Int×Int}:p∈w24 P n↔∃ k i:Nat,k<i∧i<n∧P i k=true∧p=((k:Int),(i:Int)):=by
 unfold w24
 simp only [List.mem_flatMap,List.mem_map,List.mem_filter,List.mem_range]
 constructor
 ·rintro ⟨i,hi,k,⟨hk,hp⟩,rfl⟩; exact ⟨k,i,hk,hi,hp,rfl⟩
 ·rintro ⟨k,i,hk,hi,hp,rfl⟩; exact ⟨i,hi,k,⟨hk,hp⟩,rfl⟩
theorem x4e (P:Nat→Nat→Bool) (n:Nat):(w24 P n).Nodup:=by
 induction n with
 |zero=>exact List.nodup_nil
 |succ n ih=>
  rw [y88,List.nodup_append]
  refine ⟨ih,?_,?_⟩
  ·have:((List.range n).filter (P n)).Nodup:=List.nodup_range.sublist List.filter_sublist
   rw [List.Nodup,List.pairwise_map]
   exact this.imp fun hne e=>hne (by have:=congrArg Prod.fst e; simp only at this; omega)
  ·intro a ha b hb e
   subst e
   obtain ⟨k,i,_,hi,_,rfl⟩:=x2h.1 ha
   obtain ⟨k',_,e⟩:=List.mem_map.1 hb
   have:=congrArg Prod.snd e
   simp only at this
   omega
theorem y51 {l:List Vt} {N J:Int} (hv:∀ v∈l,¬ z6x N J v) {n:Nat} (hn:N=n) (j:Int):(z1g l j).2.length=z63 l n j:=by
 have hne:∀ v∈l,v.2.1≠v.2.2:=fun v hm e=>hv v hm (.inr (.inr (.inr (.inr (.inr (.inr e))))))
 have hi:=y9k hne j
 have hlen:((z1g l j).2.map (·.1)).length=(z1g l j).2.length:=List.length_map ..
 have hmem:∀ p:Int×Int,p∈(z1g l j).2.map (·.1)↔p∈w24 (fun i k=>z23 l j i k&&z23 l j k i) n:=fun p=>by
  obtain ⟨c,d⟩:=p
  rw [←x9e,x2h]
  have h2:=hi.slip c d
  constructor
  ·rintro ⟨v,hq⟩
   rw [h2] at hq
   by_cases hc:c<d∧z23 l j c d=true∧z23 l j d c=true
   ·obtain ⟨h3,h4,h5⟩:=hc
    have hb:=hv _ (of_decide_eq_true h4)
    unfold z6x at hb
    simp only at hb
    refine ⟨c.toNat,d.toNat,by omega,by omega,?_,by rw [Prod.mk.injEq]; omega⟩
    have e1:((c.toNat:Nat):Int)=c:=by omega
    have e2:((d.toNat:Nat):Int)=d:=by omega
    rw [e1,e2,h4,h5]; rfl
   ·rw [if_neg hc] at hq; cases hq
  ·rintro ⟨k,i,h3,h4,h5,e⟩
   obtain ⟨rfl,rfl⟩:=Prod.mk.inj e
   rw [Bool.and_eq_true] at h5
   exact ⟨1,by rw [h2,if_pos ⟨by omega,h5.2,h5.1⟩]⟩
 have h1:=hi.nd2.length_le_of_subset fun p hp=>(hmem p).1 hp
 have h2:=(x4e (fun i k=>z23 l j i k&&z23 l j k i) n).length_le_of_subset fun p hp=>(hmem p).2 hp
 rw [w0r] at h1 h2
 rw [hlen] at h1 h2
 unfold z63
 omega
theorem y9j {l:List Vt} (hv:∀ v∈l,v.2.1≠v.2.2) (j x y:Int) (hxy:x<y):((z3e (z1g l j).1 (x,y)).getD 0:Int)=(if (z23 l j x y&&!z23 l j y x)=true then 1 else 0) - (if (z23 l j y x&&!z23 l j x y)=true then 1 else 0):=by
 have h:=(y9k hv j).said x y
 rw [if_pos hxy] at h
 rw [h]
 cases z23 l j x y<;>cases z23 l j y x<;>rfl
def y0h (l:List Vt) (S:Int) (x y:Int):Nat→Int
 |0=>0
 |j+1=>y0h l S x y j+(if ((z1g l j).2.length:Int)≤S then (z3e (z1g l j).1 (x,y)).getD 0 else 0)
theorem w4f {l:List Vt} {N J:Int} (hv:∀ v∈l,¬ z6x N J v) {n:Nat} (hn:N=n) (S x y:Int) (hxy:x<y) (m:Nat):
  y0h l S x y m=((cnt m (z3x l n S x y):Nat):Int) - ((cnt m (z3x l n S y x):Nat):Int):=by
 have hne:∀ v∈l,v.2.1≠v.2.2:=fun v hm e=>hv v hm (.inr (.inr (.inr (.inr (.inr (.inr e))))))
 induction m with
 |zero=>rfl
 |succ m ih=>
  rw [y0h,ih,y51 hv hn,y9j hne _ _ _ hxy,y01,y01]
  have e1:z3x l n S x y m=(decide (((z63 l n m:Nat):Int)≤S)&&(z23 l m x y&&!z23 l m y x)):=rfl
  have e2:z3x l n S y x m=(decide (((z63 l n m:Nat):Int)≤S)&&(z23 l m y x&&!z23 l m x y)):=rfl
  rw [e1,e2]
  by_cases hs:((z63 l n m:Nat):Int)≤S
  ·rw [if_pos hs,decide_eq_true hs]
   cases z23 l m x y<;>cases z23 l m y x<;>simp [o1]<;>omega
  ·rw [if_neg hs,decide_eq_false hs]
   simp [o1]
theorem y5e {l:List Vt} {N J:Int} (hv:∀ v∈l,¬ z6x N J v) {n:Nat} (hn:N=n) (S:Int) {m x y:Nat} (hxy:x<y):
  (0≤y0h l S x y m↔beK l n m S x y=true)∧(beK l n m S y x=!beK l n m S x y):=by
 have h:=w4f hv hn S x y (by omega) m
 have e1:beK l n m S x y=(!decide (y=x)&&(decide (cnt m (z3x l n S y x)<cnt m (z3x l n S x y))||(decide (cnt m (z3x l n S x y)=cnt m (z3x l n S y x))&&decide (x<y)))):=rfl
 have e2:beK l n m S y x=(!decide (x=y)&&(decide (cnt m (z3x l n S x y)<cnt m (z3x l n S y x))||(decide (cnt m (z3x l n S y x)=cnt m (z3x l n S x y))&&decide (y<x)))):=rfl
 rw [h,e1,e2]
 generalize cnt m (z3x l n S x y)=p
 generalize cnt m (z3x l n S y x)=q
 have h1:¬ y=x:=by omega
 have h2:¬ x=y:=by omega
 have h3:¬ y<x:=by omega
 by_cases a:q<p
 ·have b:¬ p<q:=by omega
  have c:¬ q=p:=by omega
  refine ⟨⟨fun _=>?_,fun _=>by omega⟩,?_⟩<;>simp [h1,h2,h3,hxy,a,b,c]
 ·by_cases b:p<q
  ·have c:¬ p=q:=by omega
   refine ⟨⟨fun _=>by omega,fun q'=>?_⟩,?_⟩
   ·simp [h1,a,c] at q'
   ·simp [h1,h2,a,b,c]
  ·have c:p=q:=by omega
   subst c
   refine ⟨⟨fun _=>?_,fun _=>by omega⟩,?_⟩<;>simp [h1,h2,h3,hxy]
end Go.Am
end
section
namespace Go.Am
theorem v2g:z05 P34 15 [false]=some (cdF 15 [false]):=by kernel_rfl
theorem v16:z05 P34 15 [false,true,true]=some (cdF 15 [false,true,true]):=by kernel_rfl
theorem v78:z05 P34 15 (false::B15)=some (cdF 15 (false::B15)):=by kernel_rfl
theorem v75:z05 P34 15 ([true,true,true]++B15)=some (cdF 15 ([true,true,true]++B15)):=by kernel_rfl
theorem v2d:z05 P34 15 [true,true,true,true,true]=some (cdF 15 [true,true,true,true,true]):=by kernel_rfl
theorem v00 (N J S:Int) (V:List (List D)):w4v 15 [false] [(0,y1p N J S V)] [] 38=some (.normal,⟨⟨[(0,y1p N J S V),(1, .bptr 0 0),(2, .d (.list true 0 [])),(3, .d (.int .i64 0))],[.box (bkC N J S V)],38⟩,[]⟩):=by kernel_rfl
theorem v0q (x:AV) (e:Int) (h:List AO):w4v 15 [false,true,true] [(1, .bptr 0 0),(2, .d (.list true 0 [])),(3, .d (.int .i64 0)),(4,x),(5, .d (.int .i64 e))] h 38=opt.ask _ (std.cmp .neq e 0)
  (some (.ret,⟨⟨[(1, .bptr 0 0),(2, .d (.list true 0 [])),(3, .d (.int .i64 e)),(4,x),(5, .d (.int .i64 e)),(14, .d (.int .i64 e)),(15, .d (.bool true)),(16, .d (.int .i64 e))],h,38⟩,[]⟩))
  (some (.normal,⟨⟨[(1, .bptr 0 0),(2, .d (.list true 0 [])),(3, .d (.int .i64 0)),(4,x),(5, .d (.int .i64 e)),(14, .d (.int .i64 e)),(15, .d (.bool false))],h,38⟩,[]⟩)):=by kernel_rfl
theorem v7v (L n:Nat) (i:Int) (h:List AO):w4v 15 (false::B15) (y7k L n i) h 38=some (.normal,⟨⟨y7k L n i++[(26, .d (.bool (std.cmp .lss i (n:Int))))],h,38⟩,[]⟩):=by kernel_rfl
theorem v7s (L n:Nat) (i:Int) (h:List AO):w4v 15 ([true,true,true]++B15) (y7k L n i) h 38=some (.normal,⟨⟨y7k L n (std.ar .add .i64 i 1)++[(36, .d (.int .i64 (std.ar .add .i64 i 1)))],h,38⟩,[]⟩):=by kernel_rfl
theorem v0x (x:AV) (h:List AO):w4v 15 [true,true,true,true,true] [(6,x)] h 38=some (.ret,⟨⟨[(6,x),(37,x),(2,x),(3, .d (.int .i64 0))],h,38⟩,[]⟩):=by kernel_rfl
theorem u0h:∃ fn,P34.funcs[15]?=some fn∧fn.body=some (cdF 15 [])∧fn.ntmps=38∧fn.results.toList=[.tmp 2, .tmp 3]:=by
 have:(P34.funcs[15]?.map fun fn=>(fn.body,fn.ntmps,fn.results.toList))=some (some (cdF 15 []),38,[.tmp 2, .tmp 3]):=by kernel_rfl
 cases hq:P34.funcs[15]? with
 |none=>rw [hq] at this; cases this
 |some fn=>
  rw [hq] at this
  simp only [Option.map_some,Option.some.injEq,Prod.mk.injEq] at this
  exact ⟨fn,rfl,this.1,this.2.1,this.2.2⟩
def slT (f:Nat→JM×JM) (n t:Nat):List Int:=(List.range n).map fun i=>if i<t then ((f i).2.length:Int) else 0
theorem x98 (f:Nat→JM×JM) (n:Nat):z1z (slT f n 0)=List.replicate n [.int .i64 0]:=by
 apply List.ext_getElem?
 intro i
 unfold z1z slT
 rw [List.map_map,List.getElem?_map,List.getElem?_replicate]
 by_cases h:i<n
 ·rw [List.getElem?_range h,if_pos h]; rfl
 ·rw [List.getElem?_eq_none (by simp; omega),if_neg h]; rfl
theorem w8q {f:Nat→JM×JM} {n t:Nat} (ht:t<n):(z1z (slT f n t))[t]?=some [.int .i64 0]:=by
 unfold z1z slT
 rw [List.map_map,List.getElem?_map,List.getElem?_range ht]
 show some (eI (if t<t then _ else 0))=_
 rw [if_neg (Nat.lt_irrefl t)]; rfl
theorem w4t {f:Nat→JM×JM} {n t:Nat} (ht:t<n):(z1z (slT f n t)).set t [.int .i64 ((f t).2.length:Int)]=z1z (slT f n (t+1)):=by
 apply List.ext_getElem?
 intro i
 rw [List.getElem?_set]
 unfold z1z slT
 rw [List.map_map,List.map_map,List.length_map,List.length_range]
 by_cases e:t=i
 ·subst e
  rw [if_pos rfl,if_pos ht,List.getElem?_map,List.getElem?_range ht]
  show _=some (eI (if t<t+1 then _ else 0))
  rw [if_pos (Nat.lt_succ_self t)]; rfl
 ·rw [if_neg e,List.getElem?_map,List.getElem?_map]
  by_cases h:i<n
  ·rw [List.getElem?_range h]
   show some (eI (if i<t then _ else 0))=some (eI (if i<t+1 then _ else 0))
   by_cases h2:i<t
   ·rw [if_pos h2,if_pos (by omega)]
   ·rw [if_neg h2,if_neg (by omega)]
  ·rw [List.getElem?_eq_none (by simp; omega)]; rfl
theorem w9j {N S:Int} {V:List (List D)} {n L:Nat} (hn:n≤1000) {f:Nat→JM×JM} {h:List AO} (hf:x5p h 1 N n S V n f) (hL:1+(2+4*n)≤L) (hLh:L<h.length) (hr:z0e h L= .row (z1z (slT f n 0)))
  {Q:AX→AS→Prop} (hQ:∀ h',z0e h' L= .row (z1z (slT f n n))→Q (.exit 0) ⟨y7k L n (n:Int),h',38⟩):z2s P34 0 (.loop (cdF 15 B15)) ⟨y7k L n ((0:Nat):Int),h,38⟩ Q:=by
 let ι:={ x:Nat×List AO // x.1≤n∧x5p x.2 1 N n S V n f∧L<x.2.length∧z0e x.2 L= .row (z1z (slT f n x.1)) }
 let I:ι→AS:=fun g=>⟨y7k L n (g.1.1:Nat),g.1.2,38⟩
 refine z7n (ι:=ι) I (fun g=>n - g.1.1) (fun _ _=>rfl) ?_ ⟨(0,h),Nat.zero_le _,hf,hLh,hr⟩
 rintro ⟨⟨t,h1⟩,ht,hf1,hL1,hr1⟩
 have hf1:x5p h1 1 N n S V n f:=hf1
 have hL1:L<h1.length:=hL1
 have hr1:z0e h1 L= .row (z1z (slT f n t)):=hr1
 rw [sB15]
 refine z0h ?_
 refine (rgF v78 (v7v L n (t:Int) h1)).mono ?_
 rintro e s ⟨rfl,rfl⟩
 refine z0h ?_
 by_cases hlt:t<n
 ·have hc:std.cmp .lss (t:Int) (n:Int)=true:=by rw [z4d]; exact decide_eq_true (by omega)
  refine z1v (t:=true) (by show AV.d (.bool (std.cmp .lss (t:Int) (n:Int)))=_; rw [hc]) ?_
  rw [if_pos rfl]
  refine z4j ?_
  refine z06 (s':=⟨y7k L n (t:Int),h1,38⟩) (z2b.env (n:=0) (s:=⟨_,h1,38⟩) (y32 rfl rfl rfl rfl)) ?_
  refine z0h (z1f (z0h (z0t (z0z ?_))))
  refine w45 hlt hf1 (Q:=fun s'=>z2s P34 0 (.region 8 (z2t 15 x5l) false) s' _) ?_
  have hh1:=hf1.len
  have l2:(z0o (z0o h1 h1.length (.box [.d .nilm, .d .nilm])) h1.length (.box [.map (1+(2+4*t)), .map (1+(3+4*t))])).length=h1.length+1:=by
   rw [z0q _ _ _ (by rw [z09]; omega),z09]
  have k2:∀ j,j<h1.length→z0e (z0o (z0o h1 h1.length (.box [.d .nilm, .d .nilm])) h1.length (.box [.map (1+(2+4*t)), .map (1+(3+4*t))])) j=z0e h1 j:=fun j hj=>by
   rw [z0a _ _ _ _ (by omega),z0a _ _ _ _ (by omega)]
  have m2:z0e (z0o (z0o h1 h1.length (.box [.d .nilm, .d .nilm])) h1.length (.box [.map (1+(2+4*t)), .map (1+(3+4*t))])) h1.length= .box [.map (1+(2+4*t)), .map (1+(3+4*t))]:=z0b _ _ _
  generalize z0o (z0o h1 h1.length (.box [.d .nilm, .d .nilm])) h1.length (.box [.map (1+(2+4*t)), .map (1+(3+4*t))])=h2 at l2 k2 m2⊢
  have hf2:=hf1.keep (h':=h2) (by omega) (fun j _ hj=>k2 j (by omega))
  refine z0t (z0z ?_)
  refine w43 (m:=(f t).2) (y0:=0) hlt m2 (hf2.slip t hlt) (by rw [k2 L hL1]; exact hr1) (w8q hlt) ?_
  rw [w4t hlt]
  have l3:(z0o h2 L (.row (z1z (slT f n (t+1))))).length=h2.length:=z0q _ _ _ (by omega)
  have k3:∀ j,j≠L→z0e (z0o h2 L (.row (z1z (slT f n (t+1))))) j=z0e h2 j:=fun j hj=>z0a _ _ _ _ (Ne.symm hj)
  have m3:z0e (z0o h2 L (.row (z1z (slT f n (t+1))))) L= .row (z1z (slT f n (t+1))):=z0b _ _ _
  generalize z0o h2 L (.row (z1z (slT f n (t+1))))=h3 at l3 k3 m3⊢
  have hf3:=hf2.keep (h':=h3) (by omega) (fun j _ hj=>k3 j (by omega))
  show z2s P34 0 (cdF 15 ([true,true,true]++B15)) ⟨y7k L n (t:Int),h3,38⟩ _
  refine z0t ((rgF v75 (v7s L n (t:Int) h3)).mono ?_)
  rintro e s ⟨rfl,rfl⟩
  rw [w74 (i:=t) (by omega)]
  exact ⟨⟨y7k L n ((t+1:Nat):Int),h3,38⟩,z2b.env (n:=0) (s:=⟨_,h3,38⟩) (y32 rfl rfl rfl rfl),⟨⟨(t+1,h3),hlt,hf3,by show L<h3.length; omega,m3⟩,rfl,by show n - (t+1)<n - t; omega⟩⟩
 ·have htl:t=n:=by omega
  subst htl
  have hc:std.cmp .lss (t:Int) (t:Int)=false:=by rw [z4d]; exact decide_eq_false (by omega)
  refine z1v (t:=false) (by show AV.d (.bool (std.cmp .lss (t:Int) (t:Int)))=_; rw [hc]) ?_
  rw [if_neg (by simp)]
  refine z06 (s':=⟨y7k L t (t:Int),h1,38⟩) (z2b.env (n:=0) (s:=⟨_,h1,38⟩) (y32 rfl rfl rfl rfl)) ?_
  exact z56 (hQ h1 hr1)
theorem z9a (h:List AO):x5k (fun _=>false) h []:=⟨fun id=>by rw [z3y]; rfl,fun id hk=>by cases hk⟩
theorem x5d {N J S e:Int} {V:List (List D)} (h19:G19 std (N,(J,(S,(V,()))))=some (e,())) (he:e≠0):z6e P34 15 [y1p N J S V] [] (.tuple [.d (.list true 0 []), .d (.int .i64 e)]) []:=by
 obtain ⟨fn,hf,hb,hnt,hres⟩:=u0h
 refine z20 x24 hf hb hnt (by show 1≤38; omega) ?_
 rw [hres,s15]
 refine z0h ((rgF v2g (v00 N J S V)).mono ?_)
 rintro e1 s1 ⟨rfl,rfl⟩
 refine z0h (z0t (z0z (x6w (y6n h19 he) (Q:=fun s'=>z2s P34 0 (.seq (cdF 15 [false,true,true]) (.seq (.region 4 (z2t 15 x9n) false) (.seq (.seq (.region 5 (z2t 15 x4f) false) (.block 0 (.loop (cdF 15 B15)))) (cdF 15 [true,true,true,true,true])))) s' _) ?_)))
 have hc:std.cmp .neq e 0=true:=by rw [x00,decide_eq_false he]; rfl
 refine z0h (z0t ((rgF v16 ((v0q _ e _).trans (by rw [hc]; rfl))).mono ?_))
 rintro e1 s1 ⟨rfl,rfl⟩
 refine ⟨_,z2b.view (n:=0) (s:=⟨_,_,38⟩) (fun _=>false) (fun id hid=>absurd hid (Nat.not_lt_zero _)) (z9a _), .inr rfl,?_,rfl⟩
 rfl
theorem v2x {N S:Int} {n:Nat} {l:List Vt} (h19:G19 std (N,((n:Int),(S,(z0k l,()))))=some (0,())) (h0:0<n) (hn:n≤1000) (hl:l.length≤1000) (hj:∀ v∈l,0≤v.1∧v.1<(n:Int)):
  z6e P34 15 [y1p N n S (z0k l)] [] (.tuple [.d (.list true 1 (z1z (slT (fun i=>z1g l (i:Int)) n n))), .d (.int .i64 0)]) []:=by
 obtain ⟨fn,hf,hb,hnt,hres⟩:=u0h
 refine z20 x24 hf hb hnt (by show 1≤38; omega) ?_
 rw [hres,s15]
 refine z0h ((rgF v2g (v00 N n S (z0k l))).mono ?_)
 rintro e1 s1 ⟨rfl,rfl⟩
 refine z0h (z0t (z0z (x6w (w3x h19 hn hl hj) (Q:=fun s'=>z2s P34 0 (.seq (cdF 15 [false,true,true]) (.seq (.region 4 (z2t 15 x9n) false) (.seq (.seq (.region 5 (z2t 15 x4f) false) (.block 0 (.loop (cdF 15 B15)))) (cdF 15 [true,true,true,true,true])))) s' _) ?_)))
 have hfam:=x29 [.box (bkC N n S (z0k l))] N n S (z0k l) n (fun i=>z1g l (i:Int))
 have hb0:=(y5b [.box (bkC N n S (z0k l))] (x46 N n S (z0k l) n (fun i=>z1g l (i:Int)))).2.2.2 0 (by simp)
 have e1:([AO.box (bkC N n S (z0k l))]:List AO).length=1:=rfl
 rw [e1] at hfam hb0
 have hb0:z0e (z1e (z1a [] 1) [.box (bkC N n S (z0k l))] 0 (x46 N n S (z0k l) n (fun i=>z1g l (i:Int)))) 0= .box (bkC N n S (z0k l)):=hb0
 have er:z46 (z1a [] 1) (.bptr 1 0)= .bptr 2 0:=rfl
 rw [er]
 generalize z1e (z1a [] 1) [.box (bkC N n S (z0k l))] 0 (x46 N n S (z0k l) n (fun i=>z1g l (i:Int)))=H at hfam hb0⊢
 refine z0h ((rgF v16 (v0q (.bptr 2 0) 0 H)).mono ?_)
 rintro e1 s1 ⟨rfl,rfl⟩
 refine z06 (s':=⟨[(1, .bptr 0 0),(4, .bptr 2 0)],H,38⟩) (z2b.env (n:=0) (s:=⟨_,H,38⟩) (z04 fun x hx=>by
  simp only [List.mem_cons,List.not_mem_nil,or_false] at hx
  rcases hx with rfl|rfl<;>rfl)) ?_
 refine z0h (z0t (z0z (w5a hn hb0 (x:= .bptr 2 0) (Q:=fun s'=>z2s P34 0 (.seq (.seq (.region 5 (z2t 15 x4f) false) (.block 0 (.loop (cdF 15 B15)))) (cdF 15 [true,true,true,true,true])) s' _) ?_)))
 have hlen:=hfam.len
 have lP:(z0o H H.length (.row (List.replicate n [.int .i64 0]))).length=H.length+1:=z09 _ _
 have kP:∀ j,j<H.length→z0e (z0o H H.length (.row (List.replicate n [.int .i64 0]))) j=z0e H j:=fun j hj=>z0a _ _ _ _ (by omega)
 have mP:z0e (z0o H H.length (.row (List.replicate n [.int .i64 0]))) H.length= .row (z1z (slT (fun i=>z1g l (i:Int)) n 0)):=by rw [z0b,x98]
 generalize z0o H H.length (.row (List.replicate n [.int .i64 0]))=H2 at lP kP mP⊢
 have hfam2:=hfam.keep (h':=H2) (by omega) (fun j _ hj=>kP j (by omega))
 refine z0h (z0h (z0t (z0z (w48 h0 hfam2 (Q:=fun s'=>z2s P34 0 (.block 0 (.loop (cdF 15 B15))) s' _) ?_))))
 refine z1f ?_
 refine w9j hn hfam2 hlen (by omega) mP fun h3 hr3=>?_
 simp only [if_true]
 refine z06 (s':=⟨[(6, .slice H.length 1 0 n (some n))],h3,38⟩) (z2b.env (n:=0) (s:=⟨_,h3,38⟩) (z04 fun x hx=>by
  simp only [List.mem_cons,List.not_mem_nil,or_false] at hx
  rcases hx with rfl; rfl)) ?_
 refine z0t ((rgF v2d (v0x _ h3)).mono ?_)
 rintro e1 s1 ⟨rfl,rfl⟩
 refine ⟨_,z2b.view (n:=0) (s:=⟨_,h3,38⟩) (fun _=>false) (fun id hid=>absurd hid (Nat.not_lt_zero _)) (z9a h3), .inr rfl,?_,rfl⟩
 have hfr:frz (z0e h3 H.length) 1 0 n (some n)= .d (.list true 1 (z1z (slT (fun i=>z1g l (i:Int)) n n))):=by
  have hl':(z1z (slT (fun i=>z1g l (i:Int)) n n)).length=n:=by simp [z1z,slT]
  rw [hr3]
  simp only [frz,x1r,y9m,List.drop_zero,Nat.zero_add]
  rw [show Nat.ble n (z1z (slT (fun i=>z1g l (i:Int)) n n)).length=true from Nat.ble_eq_true_of_le (by omega),cond_true,List.take_of_length_le (by omega)]
  try rw [y76]
 show some (AV.tuple [frz (z0e h3 H.length) 1 0 n (some n), .d (.int .i64 0)])=_
 rw [hfr]
end Go.Am
end
section
namespace Go.Am
theorem z6e.soft {g:FuncId} {args:List AV} {x x':D} {y:AV} (h:z6e P34 g args [] (.tuple [.d x,y]) []) (hx:w73 x x'):z6e P34 g args [] (.tuple [.d x',y]) []:=⟨by
 intro ρ vs w cs a1 a2 a3
 obtain ⟨ρ',v,w',fr,b1,b2,b3,b4,b5,b6,b7⟩:=h.run ρ vs w cs a1 a2 a3
 refine ⟨ρ',v,w',fr,b1,b2,b3,?_,b5,b6,b7⟩
 cases b4 with
 |tuple _ us hl hv=>
  refine .tuple _ us hl fun i z hz=>?_
  match i,hz with
  |0,hz=>
   cases hz
   have:=hv 0 _ rfl
   generalize us.getD 0 undef=u at this⊢
   cases this with|d hd=>exact .d (hd.le0 hx)
  |i+1,hz=>exact hv (i+1) z hz⟩
def w6q:List D→Option Vt
 |[.int .i64 a, .int .i64 b, .int .i64 c]=>some (a,b,c)
 |_=>none
def y90:List (List D)→Option (List Vt)
 |[]=>some []
 |r::l=>match w6q r,y90 l with
  |some v,some l=>some (v::l)
  |_,_=>none
theorem w14 {r:List D} {v:Vt} (h:w6q r=some v):r=eVt v:=by
 unfold w6q at h
 split at h
 ·cases h; rfl
 ·cases h
theorem y7v:∀ {V:List (List D)} {l:List Vt},y90 V=some l→V=z0k l
 |[],l,h=>by cases h; rfl
 |r::V,l,h=>by
  unfold y90 at h
  split at h
  ·rename_i v l' h1 h2
   cases h
   rw [w14 h1,y7v h2]; rfl
  ·cases h
theorem z8u:∀ l:List Vt,y90 (z0k l)=some l
 |[]=>rfl
 |v::l=>by
  show y90 (eVt v::z0k l)=_
  unfold y90
  rw [z8u l]; rfl
noncomputable def z6o:Ctr:=
 ⟨15,[.agg [.int .i64, .int .i64, .int .i64, .list 3]],[],[(.ret,⟨[(0, .tuple [.list 1, .int .i64])],[],1⟩)]⟩
def q15 (x:Int×(Int×(Int×(List (List D)×Unit)))):Option (List (List D)×(Int×Unit)):=
 match y90 x.2.2.2.1 with
 |none=>none
 |some l=>if z2x x.1 x.2.1 x.2.2.1 l=0 then some (z1z (z1m l x.1.toNat x.2.1.toNat),(0,())) else some ([],(z2x x.1 x.2.1 x.2.2.1 l,()))
noncomputable def v32:(p:Prim)→(Int×(Int×(Int×(List (List D)×Unit))))→Option (List (List D)×(Int×Unit)):=fun p x=>q15 x
noncomputable def u1d:Prim→Tup (z6o).scs→Option (STup (scss (z6o).outs)):=fun p x=>v32 p x
theorem x8j:z12 P34 15:=enters_auto (b:=_) rfl (by kernel_rfl)
theorem x84 {N J S:Int} {l:List Vt} (h:z2x N J S l=0):l.length≤80∧(N.toNat:Int)=N∧1≤N.toNat∧N.toNat≤10∧(J.toNat:Int)=J∧1≤J.toNat∧J.toNat≤12∧0≤S∧S≤45∧(∀ v∈l,¬ z6x N J v)∧∀ v∈l,0≤v.1∧v.1<(J.toNat:Int):=by
 obtain ⟨h1,h2,h3,h4,h5,h6,h7,h8⟩:=y75 h
 refine ⟨h1,by omega,by omega,by omega,by omega,by omega,by omega,h6,h7,h8,fun v hv=>?_⟩
 have:=h8 v hv
 unfold z6x at this
 omega
theorem x6i {N J:Int} {l:List Vt} (hv:∀ v∈l,¬ z6x N J v) (hN:(N.toNat:Int)=N) (n:Nat):slT (fun i=>z1g l (i:Int)) n n=z1m l N.toNat n:=by
 unfold slT z1m
 refine List.map_congr_left fun i hi=>?_
 have:=List.mem_range.1 hi
 rw [if_pos this,y51 hv hN.symm]
theorem v4v:CtrOk P34 z6o (u1d std):=by
 have key:∀ (N J S:Int) (V:List (List D)) (y:STup (scss (z6o).outs)),q15 (N,(J,(S,(V,()))))=some y→(y2i std z6o (z9u (z6o).scs (N,(J,(S,(V,())))))).2.length≤(z1p std (z6o).outs y).2.s.heap.length∧
   z6e P34 15 (y2i std z6o (z9u (z6o).scs (N,(J,(S,(V,())))))).1 (y2i std z6o (z9u (z6o).scs (N,(J,(S,(V,())))))).2 (z0r (z1p std (z6o).outs y).2.s.env 0) (z1p std (z6o).outs y).2.s.heap:=by
  intro N J S V y hy
  unfold q15 at hy
  simp only at hy
  split at hy
  ·cases hy
  ·rename_i l hd
   have hV:=y7v hd
   subst hV
   by_cases h0:z2x N J S l=0
   ·rw [if_pos h0] at hy
    cases hy
    obtain ⟨h1,h2,h3,h4,h5,h6,h7,h8,h9,h10,h11⟩:=x84 h0
    have h19:=x0m N J S l
    rw [h0] at h19
    have h:=v2x (N:=N) (S:=S) (n:=J.toNat) (l:=l) (by rw [h5]; exact h19) (by omega) (by omega) (by omega) h11
    rw [h5,x6i h10 h2] at h
    exact ⟨Nat.le_refl _,h.soft (.inr ⟨1,rfl, .inl rfl⟩)⟩
   ·rw [if_neg h0] at hy
    cases hy
    exact ⟨Nat.le_refl _,(x5d (x0m N J S l) h0).soft (.inr ⟨1,rfl, .inr rfl⟩)⟩
 exact ⟨x8j,fun x y hy=>key x.1 x.2.1 x.2.2.1 x.2.2.2.1 y hy⟩
end Go.Am
end
section
namespace Go.Am
section
variable {P:Program}
structure w2x (P:Program) (n:Nat) (g:FuncId) (args:List AV) (s:AS) (K:AV→AS→Prop):Prop where
 run:∀ (ρ:Rho) (vs tm:Array Value) (w:World) (cs:List Frame),z1y P ρ s tm w→z2c ρ (z0j ρ s.heap) w args vs→
  ∃ r s' ρ' v w' fr,K r s'∧Steps P (lone (Frame.enter P g vs .normal) cs w) (lone fr cs w')∧fr.fn=g∧fr.leaving P w' (.returned v)∧z0w ρ' (z0j ρ' s'.heap) w' r v∧z1y P ρ' s' tm w'∧s'.nt=s.nt∧Ext (· <n) ρ s.heap w ρ' s'.heap w'
theorem y72 {T : TypeId → Option TI} (hT : z9m P T) {n : Nat} {s0 : AS} (hn : n ≤ s0.heap.length) {f : FuncId} {fn : Func} (hf : P.funcs[f]? = some fn) {c : Code} (hb : fn.body = some c) {args : List AV} {K : AV → AS → Prop} {nt : Nat} (hnt : fn.ntmps = nt) (hle : args.length ≤ nt)
    (hc : z2s P s0.heap.length c ⟨x79 0 args, s0.heap, nt⟩ (fun e s => (e = .normal ∨ e = .ret) ∧ ∃ r, w78 T s fn.results.toList = some r ∧ K r ⟨s0.env, s.heap, s0.nt⟩)) : w2x P n f args s0 K := ⟨by
  intro ρ vs tm0 w cs h10 ha
  have hh := h10.heap
  have hdm := h10.dom
  have hstart : (Frame.enter P f vs .normal).on (vs ++ Array.replicate (nt - vs.size) undef) [] [.code c] = Frame.enter P f vs .normal := by
    simp [Frame.enter, Frame.on, hf, hb, hnt]
  have h1 : z1y P ρ ⟨x79 0 args, s0.heap, nt⟩ (vs ++ Array.replicate (nt - vs.size) undef) w :=
    ⟨hh, z59.init ha nt, by simp [ha.1]; omega, hdm⟩
  obtain ⟨e, s', ρ', tm', ds', w', ⟨q1, r, q2, q3⟩, g1, g2, g3, g4, g5⟩ := hc.run (Frame.enter P f vs .normal) [] cs ρ _ [] w w.heap.size h1 ⟨List.nodup_nil, by simp, hh.fr, Nat.le_refl _, fun l hl => by cases hl⟩
  rw [hstart] at g5
  obtain ⟨todo, hst⟩ : ∃ todo, Steps P (lone (Frame.enter P f vs .normal) cs w) (lone { (Frame.enter P f vs .normal).on tm' ds' todo with mode := .returning } cs w') := by
    rcases q1 with rfl | rfl
    · exact ⟨_, Steps.trans g5 (.one (w21 rfl))⟩
    · obtain ⟨k', hs⟩ := g5
      exact ⟨_, Steps.trans hs (.one (w20 rfl))⟩
  obtain ⟨w2, u1, u2, u3, u4, u5, u6, u7⟩ := x52 (P := P) _ _ ds' { (Frame.enter P f vs .normal).on tm' ds' todo with mode := .returning } cs w' rfl rfl g2
  have hnot : ∀ b, z0j ρ' s'.heap b → ∀ d ∈ ds', d.target ≠ .collected b := by
    intro b hbo d hd hdt
    obtain ⟨r', e', hr', hf'⟩ := g2.mark d hd
    rw [e'] at hdt
    cases hdt
    exact y7e g1.heap (fun hf => by have := g2.below _ hf; omega) hbo hr'
  have hbs : ∀ b m, z1i w' b = some m → z1i w2 b = some m := by
    intro b m hm
    have : ∀ d ∈ ds', d.target ≠ .collected b := by
      intro d hd hdt
      obtain ⟨r', e', hr', _⟩ := g2.mark d hd
      rw [e'] at hdt; cases hdt
      simp [z1i, hr'] at hm
    unfold z1i; rw [u6 b this]; exact hm
  have hold : ∀ b, b < w.heap.size → w2.heap[b]? = w'.heap[b]? := by
    intro b hb
    refine u6 b fun d hd hdt => ?_
    obtain ⟨r', e', _, hB⟩ := g2.mark d hd
    rw [e'] at hdt; cases hdt
    omega
  have hcell : ∀ (a : Addr) (v : Value), w'.cell? a = some v → w2.cell? a = some v := by
    intro a v hv
    have : ∀ d ∈ ds', d.target ≠ .collected a.block := by
      intro d hd hdt
      obtain ⟨r', e', hr', _⟩ := g2.mark d hd
      rw [e'] at hdt; cases hdt
      unfold World.cell? at hv
      rw [hr'] at hv; cases hv
    rw [z27 (w := w') (u6 _ this)]; exact hv
  have hh2 : z0d P ρ' s'.heap w2 := g1.heap.cells hcell (by omega) hbs (fun b hb => u6 b (hnot b hb))
  have g1' : z1y P ρ' s' tm' w2 := ⟨hh2, fun t => (g1.env t).cells hcell (by omega) hbs, g1.size, g1.dom⟩
  obtain ⟨v, hv1, hv2⟩ := y5o hT g1' q2
  have hxf : Ext (· < s0.heap.length) ρ s0.heap w ρ' s'.heap w2 :=
    { os := u2.trans g4.os
      tape := u3.trans g4.tape
      output := u4.trans g4.output
      keep :=
        { size := by rw [u5]; exact g4.keep.size
          frame := fun b hb ho => (hold b hb).trans (g4.keep.frame b hb ho)
          own := fun b hb ho => g4.keep.own b hb ho
          shape := fun b m hm => hbs b m (g4.keep.shape b m hm)
          drawn := by rw [u7]; exact g4.keep.drawn }
      rho := g4.rho
      fr := g4.fr
      frs := fun b hf => (hold b (hh.fr b hf)).trans (g4.frs b hf) }
  have hρ : ∀ id L, ρ id = some L → ρ' id = some L := fun id L hL => by
    have hid : id < s0.heap.length := h10.dom id (by rw [hL]; simp)
    rw [hxf.rho id hid]; exact hL
  exact ⟨r, _, ρ', v, w2, _, q3, Steps.trans hst u1, rfl, ⟨rfl, rfl, rfl, fn, hf, hv1⟩, hv2, ⟨hh2, fun t => (h10.env t).keep hxf.keep hρ, h10.size, g1.dom⟩, rfl, hxf.mono (fun id (hid : id < n) => by show id < s0.heap.length; omega)⟩⟩
theorem y4h {n:Nat} {s:AS} {Q:AX→AS→Prop} {f:Operand} {ps:Array Tmp} {asg body:Code} {g:FuncId} {first captured:List AV} {gc:Nat} {pos:List Bool} (hcd:z05 P gc pos=some (.rangeFunc f ps asg body)) (hf:z0n s.env f= .clo (.func g) first captured) (hen:z12 P g) (hn:n≤s.heap.length)
  (hret:w2x P (s.heap.length+1) g (first++[.yld s.heap.length]++captured) ⟨s.env,z0o s.heap s.heap.length (.loop .ready none gc pos s.nt s.env),s.nt⟩ fun r sc=>
   ∃ st pd gc' pos' env nt e s',z0e sc.heap s.heap.length= .loop st pd gc' pos' nt env∧st≠ .busy∧z58 sc (z0o sc.heap s.heap.length .dead) pd=some (e,s')∧Q e s'):z2s P n (.rangeFunc f ps asg body) s Q:=⟨by
 intro b k cs ρ tm ds w B h1 h2
 have hnone:ρ s.heap.length=none:=by
  cases hq:ρ s.heap.length with
  |none=>rfl
  |some L=>have:=h1.dom s.heap.length (by rw [hq]; simp); omega
 obtain ⟨mark,w1,dsn,hw1,hrun1,hmark⟩:∃ (mark:List Deferred) (w1:World) (dsn:Nat),(z0d P ρ s.heap w1∧Ext (· <s.heap.length) ρ s.heap w ρ s.heap w1)∧
   (∀ o:Loop,o={ state:= .ready,pending:=none,fn:=b.fn,tmps:=tm,params:=ps,assign:=asg,body:=body,defers:=dsn }→(Instr.enterLoop b.fn tm ps asg body b.roundOf).run P w= .ok (w1.heap.size,mark) (World.push w1 (.loop o)))∧z3g b.roundOf B ρ.fr w1 (mark++ds):=by
  cases hro:b.roundOf with
  |none=>
   refine ⟨[{ target:= .collected w.heap.size,args:=#[] }],World.push w (.deferred (some [])),w.heap.size,⟨h1.heap.push0 _,Ext.push0 _ h1.heap _⟩,?_,?_⟩
   ·rintro o rfl
    simp [Instr.enterLoop,newObj,Sem.run,World.push]
    rfl
   ·rw [hro] at h2
    refine ⟨?_,?_,h2.below,by rw [z5z]; have:=h2.le; omega,fun l hl=>by cases hl⟩
    ·refine List.nodup_cons.2 ⟨fun hm=>?_,h2.nodup⟩
     obtain ⟨r,e,hr,_⟩:=h2.mark _ hm
     have:=(Array.getElem?_eq_some_iff.1 hr).1
     have e2:Target.collected w.heap.size=Target.collected r:=congrArg Deferred.target e
     injection e2 with e2
     omega
    ·intro d hd
     rcases List.mem_cons.1 hd with rfl|hd
     ·exact ⟨w.heap.size,rfl,z2m _ _,h2.le⟩
     ·obtain ⟨r,e,hr,hB⟩:=h2.mark d hd
      exact ⟨r,e,by rw [z40 _ _ _ (Array.getElem?_eq_some_iff.1 hr).1]; exact hr,hB⟩
  |some l0=>
   rw [hro] at h2
   obtain ⟨_,r0,hr0⟩:=h2.round l0 rfl
   refine ⟨[],w,r0.defers,⟨h1.heap,Ext.refl _ _ _ _⟩,?_,h2⟩
   rintro o rfl
   simp [Instr.enterLoop,newObj,Sem.run,World.push,z4u hr0]
   try rfl
 obtain ⟨hh1,hx1⟩:=hw1
 have hrun1:=hrun1 _ rfl
 generalize hlo:({ state:= .ready,pending:=none,fn:=b.fn,tmps:=tm,params:=ps,assign:=asg,body:=body,defers:=dsn }:Loop)=lo at hrun1
 have hx2:=Ext.new hh1 hnone ⟨w1.heap.size,0,0⟩ (.loop .ready none gc pos s.nt s.env) (.loop lo) rfl
 have hh2:z0d P (ρ.put s.heap.length ⟨w1.heap.size,0,0⟩) (z0o s.heap s.heap.length (.loop .ready none gc pos s.nt s.env)) (World.push w1 (.loop lo)):=
  hh1.new hnone 0 _ _ ⟨f,ps,asg,body,hcd,tm,dsn,b.fn,by rw [z2m, ←hlo],h1.size,fun t=>((h1.env t).keep hx1.keep (fun _ _ h=>h)).keep hx2.keep (Rho.put_mono _ _ _ hnone)⟩
 have hd2:Dom (ρ.put s.heap.length ⟨w1.heap.size,0,0⟩) (z0o s.heap s.heap.length (.loop .ready none gc pos s.nt s.env)):=fun id hid=>by
  rw [z09]
  by_cases e:id=s.heap.length
  ·omega
  ·rw [Rho.put_ne _ _ _ _ e] at hid
   have:=h1.dom id hid; omega
 have hx02:=(hx1.mono (S':=(· <s.heap.length)) (fun _ h=>h)).trans (hx2.mono (S':=(· <s.heap.length)) (fun id (h:id<s.heap.length)=>by show id≠s.heap.length; omega))
 have hmono2:∀ id L,ρ id=some L→(ρ.put s.heap.length ⟨w1.heap.size,0,0⟩) id=some L:=Rho.put_mono _ _ _ hnone
 have hfv:=z0p h1.env f
 rw [hf] at hfv
 obtain ⟨vf,vc,hfe,hfr,hcr⟩:∃ vf vc,opv tm f= .func (.func g) vf vc∧z2c ρ (z0j ρ s.heap) w first vf∧z2c ρ (z0j ρ s.heap) w captured vc:=by
  generalize hv:opv tm f=v at hfv
  cases hfv with
  |clo _ _ _ vf vc a1 a2 a3 a4=>exact ⟨vf,vc,rfl,⟨a1,a3⟩,⟨a2,a4⟩⟩
 have later:∀ (xs:List AV) (vs:Array Value),z2c ρ (z0j ρ s.heap) w xs vs→z2c (ρ.put s.heap.length ⟨w1.heap.size,0,0⟩) (z0j (ρ.put s.heap.length ⟨w1.heap.size,0,0⟩) (z0o s.heap s.heap.length (.loop .ready none gc pos s.nt s.env))) (World.push w1 (.loop lo)) xs vs:=
  fun xs vs h=>⟨h.1,fun i x hx=>(h.2 i x hx).keep hx02.keep hmono2⟩
 have hyl:z2c (ρ.put s.heap.length ⟨w1.heap.size,0,0⟩) (z0j (ρ.put s.heap.length ⟨w1.heap.size,0,0⟩) (z0o s.heap s.heap.length (.loop .ready none gc pos s.nt s.env))) (World.push w1 (.loop lo)) [.yld s.heap.length] #[.func (.yield w1.heap.size) #[] #[]]:=
  ⟨rfl,fun i x hx=>by
   cases i with
   |zero=>cases hx; exact .yld _ _ (Rho.put_same _ _ _)
   |succ i=>simp at hx⟩
 have hexec:(do let d←resolve (opv tm) { callee:= .value f,args:=#[.const (.func (.yield w1.heap.size) #[] #[])],argTypes:=#[] } 0; invoke d.target d.args:Sem Next).run P (World.push w1 (.loop lo))= .ok (.enter g (vf++#[.func (.yield w1.heap.size) #[] #[]]++vc)) (World.push w1 (.loop lo)):=by
  have:=hen (vf++#[.func (.yield w1.heap.size) #[] #[]]++vc) (World.push w1 (.loop lo))
  simp only [Array.append_singleton] at this⊢
  have hcst:opv tm (.const (.func (.yield w1.heap.size) #[] #[]))= .func (.yield w1.heap.size) #[] #[]:=rfl
  simp [resolve,Deferred.ofValue,hfe,invoke,hcst,this]
 have hst2:z1y P (ρ.put s.heap.length ⟨w1.heap.size,0,0⟩) ⟨s.env,z0o s.heap s.heap.length (.loop .ready none gc pos s.nt s.env),s.nt⟩ tm (World.push w1 (.loop lo)):=
  ⟨hh2,fun t=>(h1.env t).keep hx02.keep hmono2,h1.size,hd2⟩
 obtain ⟨r,sc,ρ3,v,w3,fr,⟨st,pd,gc',pos',env,nt,e,s',hob,hst,haf,hQ⟩,hsteps,hfn,hlv,hv,hst3,hnt3,hx3⟩:=hret.run _ _ tm (World.push w1 (.loop lo)) (b.on tm (mark++ds) (.inRangeFunc w1.heap.size::k)::cs) hst2 (((later _ _ hfr).append hyl).append (later _ _ hcr))
 have hh3:=hst3.heap
 have hdm3:=hst3.dom
 have hL3:ρ3 s.heap.length=some ⟨w1.heap.size,0,0⟩:=by rw [hx3.rho _ (by show s.heap.length<s.heap.length+1; omega)]; exact Rho.put_same _ _ _
 obtain ⟨_,hobj⟩:=hh3.obj _ _ hL3
 rw [hob] at hobj
 obtain ⟨x',ps',asg',body',hcd3,tm3,ds3,fid3,hcb3,hts3,hev3⟩:=hobj
 have hel:=y3q (P:=P) hcb3 hst
 have hlive:(z0e sc.heap s.heap.length).live=true:=by rw [hob]; rfl
 have hbs:∀ m,z1i w3 w1.heap.size=some m→z1i (World.setObj w3 w1.heap.size (.loop { state:= .exhausted,pending:=pd,fn:=fid3,tmps:=tm3,params:=ps',assign:=asg',body:=body',defers:=ds3 })) w1.heap.size=some m:=fun m hm=>y1o hcb3 _ _ hm
 have hk4:=z19 hh3 hL3 hlive (.loop .exhausted pd gc' pos' nt env) rfl (.loop { state:= .exhausted,pending:=pd,fn:=fid3,tmps:=tm3,params:=ps',assign:=asg',body:=body',defers:=ds3 }) hbs
 have hh4:=hh3.set hL3 hlive (.loop .exhausted pd gc' pos' nt env) rfl (.loop { state:= .exhausted,pending:=pd,fn:=fid3,tmps:=tm3,params:=ps',assign:=asg',body:=body',defers:=ds3 }) hbs
  ⟨x',ps',asg',body',hcd3,tm3,ds3,fid3,z0s _ _ _ (Array.getElem?_eq_some_iff.1 hcb3).1,hts3,fun t=>(hev3 t).keep hk4 (fun _ _ h=>h)⟩
 have hx4:=Ext.set (· <s.heap.length) hh3 hL3 hlive (.loop .exhausted pd gc' pos' nt env) rfl (.loop { state:= .exhausted,pending:=pd,fn:=fid3,tmps:=tm3,params:=ps',assign:=asg',body:=body',defers:=ds3 }) hbs
 have hh5:=hh4.kill s.heap.length
 have hx5:=Ext.kill (· <s.heap.length) ρ3 (z0o sc.heap s.heap.length (.loop .exhausted pd gc' pos' nt env)) (World.setObj w3 w1.heap.size (.loop { state:= .exhausted,pending:=pd,fn:=fid3,tmps:=tm3,params:=ps',assign:=asg',body:=body',defers:=ds3 })) s.heap.length
 have hsame:∀ id,z0e (z0o (z0o sc.heap s.heap.length (.loop .exhausted pd gc' pos' nt env)) s.heap.length .dead) id=z0e (z0o sc.heap s.heap.length .dead) id:=by
  intro id
  by_cases e:s.heap.length=id
  ·subst e; rw [z0b,z0b]
  ·rw [z0a _ _ _ _ e,z0a _ _ _ _ e,z0a _ _ _ _ e]
 have hh6:=hh5.ext hsame
 have hx:Ext (· <s.heap.length) ρ s.heap w ρ3 (z0o sc.heap s.heap.length .dead) (World.setObj w3 w1.heap.size (.loop { state:= .exhausted,pending:=pd,fn:=fid3,tmps:=tm3,params:=ps',assign:=asg',body:=body',defers:=ds3 })):=by
  have:=((hx02.trans (hx3.mono (S':=(· <s.heap.length)) (fun id (h:id<s.heap.length)=>by show id<s.heap.length+1; omega))).trans hx4).trans hx5
  exact ⟨this.os,this.tape,this.output,by rw [←z24 hsame]; exact this.keep,this.rho,this.fr,this.frs⟩
 have hx345:z5e (z0j ρ3 sc.heap) (z0j ρ3 (z0o sc.heap s.heap.length .dead)) w3 (World.setObj w3 w1.heap.size (.loop { state:= .exhausted,pending:=pd,fn:=fid3,tmps:=tm3,params:=ps',assign:=asg',body:=body',defers:=ds3 })):=by
  have:=(hx4.trans hx5).keep
  rw [z24 hsame] at this
  exact this
 have hst':z1y P ρ3 ⟨sc.env,z0o sc.heap s.heap.length .dead,sc.nt⟩ tm (World.setObj w3 w1.heap.size (.loop { state:= .exhausted,pending:=pd,fn:=fid3,tmps:=tm3,params:=ps',assign:=asg',body:=body',defers:=ds3 })):=
  ⟨hh6,fun t=>(hst3.env t).keep hx345 (fun _ _ h=>h),hst3.size,fun id hid=>by
   have:=hdm3 id hid
   have:=(z10 sc.heap s.heap.length .dead).1
   show id<(z0o sc.heap s.heap.length .dead).length
   omega⟩
 have hdf:z3g b.roundOf B ρ3.fr (World.setObj w3 w1.heap.size (.loop { state:= .exhausted,pending:=pd,fn:=fid3,tmps:=tm3,params:=ps',assign:=asg',body:=body',defers:=ds3 })) (mark++ds):=
  (((hmark.keep hh1 hx2).keep hh2 hx3).keep hh3 hx4)
 have hall:Steps P (lone (b.on tm ds (.code (.rangeFunc f ps asg body)::k)) cs w) (lone (b.on tm (mark++ds) ((pd.map Item.code).toList++k)) cs (World.setObj w3 w1.heap.size (.loop { state:= .exhausted,pending:=pd,fn:=fid3,tmps:=tm3,params:=ps',assign:=asg',body:=body',defers:=ds3 }))):=
  .head (y1x hrun1 hexec) (Steps.trans hsteps (.head (step_leave_returned hlv) (.one (y3m hel))))
 have hxn:=hx.mono (S':=(· <n)) (fun id (h:id<n)=>by show id<s.heap.length; omega)
 unfold z58 at haf
 split at haf
 ·cases haf; exact ⟨.normal,_,ρ3,tm,mark++ds,_,hQ,hst',hdf,hnt3,hxn,hall⟩
 ·cases haf; exact ⟨.ret,_,ρ3,tm,mark++ds,_,hQ,hst',hdf,hnt3,hxn,_,hall⟩
 ·cases haf; exact ⟨.exit _,_,ρ3,tm,mark++ds,_,hQ,hst',hdf,hnt3,hxn,k,rfl,hall⟩
 ·cases haf⟩
end
end Go.Am
end
section
namespace Go.Am
theorem osN {n:Nat} {ops:Array Oper} {i:Nat} {rest:List Nat} {s:AS} {Q:AS→Prop} {o:Oper} {dst:Option Tmp} {op:Op} (ho:ops[i]?=some o∧o.dst=dst∧o.op=op∧o.guard=none) (hn:n≤s.heap.length)
  {q:Bool} {r:List D} {ra:List AV} {res:Res} (hw:(z08 std E34.T s.env s.heap op).ok q r ra) (hs:z0i std E34.T s.env s.heap s.heap.length q r ra op=some res) (hc:res.c=true) (hd:z4o s.nt dst=true)
  (h:z4m P34 n ops rest (z5h s dst res.v res.u) Q):z4m P34 n ops (i::rest) s Q:=by
 obtain ⟨h1,rfl,rfl,hg⟩:=ho
 exact y3x x24 h1 (by rw [hg]; rfl) hn hw hs hc hd h
theorem rgN {n g:Nat} {c:Code} {pos:List Bool} {ss:SS} {e:AX} {ss':SS} (hcd:z05 P34 g pos=some c) (hn:n≤ss.s.heap.length) (h:sym opt std E34 (w0t opt) 20 (AX×SS) n g pos c ss (fun e s=>some (e,s))=some (e,ss')):
  z2s P34 n c ss.s (fun e' s2=>e'=e∧s2=ss'.s):=by
 obtain ⟨e0,s0,_,hc,hk⟩:=y5d w8e y3y 20 (AX×SS) n g pos c ss _ _ hcd hn h
 cases hk; exact hc
noncomputable abbrev y3s (n g:Nat) (pos:List Bool) (env:List (Nat×AV)) (h:List AO) (nt:Nat):Option (AX×SS):=sym opt std E34 (w0t opt) 20 (AX×SS) n g pos (cdF g pos) ⟨⟨env,h,nt⟩,[]⟩ fun e s=>some (e,s)
theorem s48:cdF 48 []= .seq (.region 0 (z2t 48 [false]) false) (.seq (.region 1 (z2t 48 [false,true]) false) .ret):=by kernel_rfl
theorem fn48:∃ fn,P34.funcs[48]?=some fn∧fn.body=some (cdF 48 [])∧fn.ntmps=4∧fn.results.toList=[.tmp 2]:=by
 have:(P34.funcs[48]?.map fun fn=>(fn.body,fn.ntmps,fn.results.toList))=some (some (cdF 48 []),4,[.tmp 2]):=by kernel_rfl
 cases hq:P34.funcs[48]? with
 |none=>rw [hq] at this; cases this
 |some fn=>
  rw [hq] at this
  simp only [Option.map_some,Option.some.injEq,Prod.mk.injEq] at this
  exact ⟨fn,rfl,this.1,this.2.1,this.2.2⟩
theorem v3c:(E34.T 85).map (fun t=>(t.size,t.agg,t.zero))=some (1,false,[.nilp]):=by kernel_rfl
theorem v8c {env:List (Nat×AV)} {h:List AO} {new a F:Nat} (ha:z0r env a= .bptr F 0):z0i std E34.T env h new false [] [] (.box 85 (.tmp a))=some ⟨true, .bptr new 0,[(new, .box [.bptr F 0])]⟩:=by
 cases ht:E34.T 85 with
 |none=>have:=v3c; rw [ht] at this; cases this
 |some ti=>
  have h1:=v3c
  rw [ht] at h1
  simp only [Option.map_some,Option.some.injEq,Prod.mk.injEq] at h1
  obtain ⟨s,b,a',z,d,q⟩:=ti
  simp only at h1
  obtain ⟨rfl,rfl,rfl⟩:=h1
  simp only [z0i,ht,z0n,ha]
  rfl
theorem v2v {h:List AO} {F:Nat}:z6e P34 48 [.bptr F 0] h (.clo (.func 78) [] [.bptr h.length 0]) (z0o h h.length (.box [.bptr F 0])):=by
 obtain ⟨fn,hf,hb,hnt,hres⟩:=fn48
 refine z20 x24 hf hb hnt (by show 1≤4; omega) ?_
 rw [hres,s48]
 have r0:List.range (z2t 48 [false]).size=[0,1]:=by kernel_rfl
 have r1:List.range (z2t 48 [false,true]).size=[0,1]:=by kernel_rfl
 obtain ⟨w0,o0⟩:=z03 (g:=48) (p:=[false]) (i:=0) (dst:=some 1) (op:= .box 85 (.tmp 0)) (by kernel_rfl)
 obtain ⟨w1,o1⟩:=z03 (g:=48) (p:=[false]) (i:=1) (dst:=some 2) (op:= .assign (.const .nilFunc)) (by kernel_rfl)
 obtain ⟨w2,o2⟩:=z03 (g:=48) (p:=[false,true]) (i:=0) (dst:=some 3) (op:= .makeFunc (.func 78) #[] #[.tmp 1]) (by kernel_rfl)
 obtain ⟨w3,o3⟩:=z03 (g:=48) (p:=[false,true]) (i:=1) (dst:=some 2) (op:= .assign (.tmp 3)) (by kernel_rfl)
 refine z0h (z0z ?_)
 rw [r0]
 refine osN o0 (Nat.le_refl _) (q:=false) (r:=[]) (ra:=[]) (res:=⟨true, .bptr h.length 0,[(h.length, .box [.bptr F 0])]⟩) trivial (v8c rfl) rfl rfl ?_
 have hl:h.length≤(z0o h h.length (.box [.bptr F 0])).length:=by rw [z09]; omega
 show z4m P34 _ _ [1] ⟨[(0, .bptr F 0),(1, .bptr h.length 0)],z0o h h.length (.box [.bptr F 0]),4⟩ _
 generalize z0o h h.length (.box [.bptr F 0])=H at hl⊢
 refine osN o1 hl (q:=false) (r:=[]) (ra:=[]) (res:=⟨true, .d .nilf,[]⟩) trivial rfl rfl rfl ?_
 refine z1t (z0h (z0z ?_))
 rw [r1]
 refine osN o2 hl (q:=false) (r:=[]) (ra:=[]) (res:=⟨true, .clo (.func 78) [] [.bptr h.length 0],[]⟩) trivial rfl rfl rfl ?_
 refine osN o3 hl (q:=false) (r:=[]) (ra:=[]) (res:=⟨true, .clo (.func 78) [] [.bptr h.length 0],[]⟩) trivial rfl rfl rfl ?_
 refine z1t (y7x ⟨.inr rfl,rfl,rfl⟩)
theorem w1s:z12 P34 48:=enters_auto (b:=_) rfl (by kernel_rfl)
theorem w76:(E34.T 61).map (fun t=>(t.size,t.agg,t.zero))=some (1,false,[.nilp]):=by kernel_rfl
theorem w7v {env:List (Nat×AV)} {h:List AO} {new:Nat}:z0i std E34.T env h new false [] [] (.alloc 61)=some ⟨true, .bptr new 0,[(new, .box [.d .nilp])]⟩:=by
 cases ht:E34.T 61 with
 |none=>have:=w76; rw [ht] at this; cases this
 |some ti=>
  have h1:=w76
  rw [ht] at h1
  simp only [Option.map_some,Option.some.injEq,Prod.mk.injEq] at h1
  have e:z0i std E34.T env h new false [] [] (.alloc 61)=z62 std ti new:=by simp only [z0i,ht]
  rw [e]
  obtain ⟨s,b,a,z,d,q⟩:=ti
  simp only at h1
  obtain ⟨rfl,rfl,rfl⟩:=h1
  rfl
theorem w4j {env:List (Nat×AV)} {h:List AO} {new a c id:Nat} {x:AV} (hx:z1w x=some [x]∧z5j [x]=true) (ha:z0r env a= .bptr id 0) (hc:z0r env c=x) (hh:z0e h id= .box [.d .nilp]):
  z0i std E34.T env h new false [] [] (.store 61 (.tmp a) (.tmp c))=some ⟨true, .bot,[(id, .box [x])]⟩:=by
 cases ht:E34.T 61 with
 |none=>have:=w76; rw [ht] at this; cases this
 |some ti=>
  have h1:=w76
  rw [ht] at h1
  simp only [Option.map_some,Option.some.injEq,Prod.mk.injEq] at h1
  obtain ⟨s,b,a',z,d,q⟩:=ti
  simp only at h1
  obtain ⟨rfl,rfl,rfl⟩:=h1
  simp only [z0i,ht,z0n,ha,hc,z2d,hx.1,hx.2,z1j,hh]
  rfl
theorem x7e {env:List (Nat×AV)} {h:List AO} {new a id x:Nat} (ha:z0r env a= .bptr id 0) (hh:z0e h id= .box [.bptr x 0]):
  z0i std E34.T env h new false [] [] (.load 61 (.tmp a))=some ⟨true, .bptr x 0,[]⟩:=by
 cases ht:E34.T 61 with
 |none=>have:=w76; rw [ht] at this; cases this
 |some ti=>
  have h1:=w76
  rw [ht] at h1
  simp only [Option.map_some,Option.some.injEq,Prod.mk.injEq] at h1
  simp only [z0i,z0n,ha,ht,z5f,z1k,hh,h1.1,h1.2.1]
  rfl
def x5n:List Bool:=[false,true]
theorem x6v {N J S e:Int} {V:List (List D)} {r0:AV} {hT:List AO} (har:z6e P34 46 [y1p N J S V] [] (.tuple [r0, .d (.int .i64 e)]) hT) (hx:z1w (z46 (z1a [] 1) r0)=some [z46 (z1a [] 1) r0]∧z5j [z46 (z1a [] 1) r0]=true)
  {Q:AS→Prop} (hQ:Q ⟨[(1, .bptr 0 0),(2, .d (.list true 0 [])),(3, .d (.int .i64 0)),(4, .bptr (z1e (z1a [] 1) [.box (bkC N J S V)] 0 hT).length 0),(5, .d (.int .i64 e))],
   z0o (z0o (z1e (z1a [] 1) [.box (bkC N J S V)] 0 hT) (z1e (z1a [] 1) [.box (bkC N J S V)] 0 hT).length (.box [.d .nilp])) (z1e (z1a [] 1) [.box (bkC N J S V)] 0 hT).length (.box [z46 (z1a [] 1) r0]),69⟩):
  z4m P34 0 (z2t 17 x5n) (List.range (z2t 17 x5n).size) ⟨[(0,y1p N J S V),(1, .bptr 0 0),(2, .d (.list true 0 [])),(3, .d (.int .i64 0))],[.box (bkC N J S V)],69⟩ (fun s=>∃ s',z2b 0 s s'∧Q s'):=by
 have hr:List.range (z2t 17 x5n).size=[0,1,2,3,4,5,6,7]:=by kernel_rfl
 obtain ⟨w0,o0⟩:=z03 (g:=17) (p:=x5n) (i:=0) (dst:=some 12) (op:= .load 24 (.tmp 1)) (by kernel_rfl)
 obtain ⟨w1,o1⟩:=z03 (g:=17) (p:=x5n) (i:=1) (dst:=some 13) (op:= .call ⟨.value (.func 46),#[.tmp 12],#[24]⟩) (by kernel_rfl)
 obtain ⟨w2,o2⟩:=z03 (g:=17) (p:=x5n) (i:=2) (dst:=some 11) (op:= .move (.tmp 13)) (by kernel_rfl)
 obtain ⟨w3,o3⟩:=z03 (g:=17) (p:=x5n) (i:=3) (dst:=some 14) (op:= .extract (.tmp 11) 0) (by kernel_rfl)
 obtain ⟨w4,o4⟩:=z03 (g:=17) (p:=x5n) (i:=4) (dst:=some 15) (op:= .extract (.tmp 11) 1) (by kernel_rfl)
 obtain ⟨w5,o5⟩:=z03 (g:=17) (p:=x5n) (i:=5) (dst:=some 4) (op:= .alloc 61) (by kernel_rfl)
 obtain ⟨w6,o6⟩:=z03 (g:=17) (p:=x5n) (i:=6) (dst:=none) (op:= .store 61 (.tmp 4) (.tmp 14)) (by kernel_rfl)
 obtain ⟨w7,o7⟩:=z03 (g:=17) (p:=x5n) (i:=7) (dst:=some 5) (op:= .assign (.tmp 15)) (by kernel_rfl)
 rw [hr]
 refine z3q o0 (q:=false) (r:=[]) (ra:=[]) (res:=⟨true,y1p N J S V,[]⟩) trivial (u0b rfl rfl) rfl rfl ?_
 refine x2m o1 x3b (r:=z46 (z1a [] 1) (.tuple [r0, .d (.int .i64 e)])) (x3o (Nat.zero_le _) (fun x hx=>by
  have hx:x∈[y1p N J S V]:=hx
  rw [List.mem_singleton] at hx
  exact ⟨_,hx⟩) har) rfl ?_
 have er:z46 (z1a [] 1) (.tuple [r0, .d (.int .i64 e)])= .tuple [z46 (z1a [] 1) r0, .d (.int .i64 e)]:=rfl
 rw [er]
 show z4m P34 0 _ [2,3,4,5,6,7] ⟨_,z1e (z1a [] 1) [.box (bkC N J S V)] 0 hT,69⟩ _
 generalize z46 (z1a [] 1) r0=x at hQ hx⊢
 generalize z1e (z1a [] 1) [.box (bkC N J S V)] 0 hT=H at hQ⊢
 refine z3q o2 (q:=false) (r:=[]) (ra:=[]) (res:=⟨true, .tuple [x, .d (.int .i64 e)],[]⟩) trivial rfl rfl rfl ?_
 refine z3q o3 (q:=false) (r:=[]) (ra:=[]) (res:=⟨true,x,[]⟩) trivial rfl rfl rfl ?_
 refine z3q o4 (q:=false) (r:=[]) (ra:=[]) (res:=⟨true, .d (.int .i64 e),[]⟩) trivial rfl rfl rfl ?_
 refine z3q o5 (q:=false) (r:=[]) (ra:=[]) (res:=⟨true, .bptr H.length 0,[(H.length, .box [.d .nilp])]⟩) trivial w7v rfl rfl ?_
 have hM:z0e (z0o H H.length (.box [.d .nilp])) H.length= .box [.d .nilp]:=z0b _ _ _
 refine z3q o6 (q:=false) (r:=[]) (ra:=[]) (res:=⟨true, .bot,[(H.length, .box [x])]⟩) (x12 rfl hM) (w4j hx rfl rfl hM) rfl rfl ?_
 refine z3q o7 (q:=false) (r:=[]) (ra:=[]) (res:=⟨true, .d (.int .i64 e),[]⟩) trivial rfl rfl rfl ?_
 refine z1t ⟨_,z2b.env (n:=0) (s:=⟨_,_,69⟩) (z04 fun x hx=>?_),hQ⟩
 simp only [List.mem_cons,List.not_mem_nil,or_false] at hx
 rcases hx with rfl|rfl|rfl|rfl|rfl<;>rfl
end Go.Am
end
section
namespace Go.Am
def w57 (N:Int):List D:= .int .i64 N::List.replicate 100 (.int .i64 0)
theorem v9i:(E34.T 75).map (fun t=>(t.size,t.agg))=some (101,true):=by kernel_rfl
theorem w7u {env:List (Nat×AV)} {h:List AO} {new:Nat}:z0i std E34.T env h new false [] [] (.alloc 75)=some ⟨true, .bptr new 0,[(new, .row (std.rep 101 [.int .i64 0]))]⟩:=by kernel_rfl
theorem w7n {a:Nat} {N:Int} {env:List (Nat×AV)} {h:List AO} {new:Nat} (ha:z0r env a= .d (.int .i64 N)):
  z0i std E34.T env h new false [] [] (.build 75 #[(0, .tmp a)])=some ⟨true, .d (.agg (w57 N)),[]⟩:=by
 have e:z0i std E34.T env h new false [] [] (.build 75 #[(0, .tmp a)])=z0i std E34.T [(0, .d (.int .i64 N))] h new false [] [] (.build 75 #[(0, .tmp 0)]):=by
  simp only [z0i]
  show (match E34.T 75 with|some ti=>z5v ti [(0,z0r env a)]|none=>none)=_
  rw [ha]; rfl
 exact e.trans (by kernel_rfl)
theorem w4i {env:List (Nat×AV)} {h:List AO} {new a c F:Nat} {N:Int} {y:D} (ha:z0r env a= .bptr F 0) (hc:z0r env c= .d (.agg (w57 N))) (hh:z0e h F= .row (std.rep 101 [.int .i64 0])):
  z0i std E34.T env h new false [y] [] (.store 75 (.tmp a) (.tmp c))=some ⟨true, .bot,[(F, .row (fld N (fun _ _=>false)))]⟩:=by
 cases ht:E34.T 75 with
 |none=>have:=v9i; rw [ht] at this; cases this
 |some ti=>
  have h1:=v9i
  rw [ht] at h1
  simp only [Option.map_some,Option.some.injEq,Prod.mk.injEq] at h1
  obtain ⟨s,b,a',z,d,q⟩:=ti
  simp only at h1
  obtain ⟨rfl,rfl⟩:=h1
  simp only [z0i,ht,z0n,ha,hc,z2d,z1w,z1j,hh]
  rfl
theorem w37 {env:List (Nat×AV)} {h:List AO} {t:TypeId} {a c F off:Nat} {es:List (List D)} {y:D} (ha:z0r env a= .bptr F off) (hh:z0e h F= .row es) (he:es[off]?=some [y]):(z08 std E34.T env h (.store t (.tmp a) (.tmp c))).ok false [y] []:=by
 simp only [z08,z0n,ha,z21,hh,y23.ok]
 intro j x hx
 match j,hx with
 |0,hx=>cases hx; exact ⟨[y],he,z68 _⟩
 |j+1,hx=>simp at hx
def x5m:List Bool:=[false,true,true,true]
theorem w49 {N J S:Int} {V:List (List D)} {v:AV} {h:List AO} {P:Nat} (hP:z0e h P= .box [.bptr 2 0]) (h2:z0e h 2= .box (bkC N J S V++[v]))
  {Q:AS→Prop} (hQ:Q ⟨[(4, .bptr P 0),(6, .bptr h.length 0)],z0o (z0o h h.length (.row (std.rep 101 [.int .i64 0]))) h.length (.row (fld N (fun _ _=>false))),69⟩):
  z4m P34 0 (z2t 17 x5m) (List.range (z2t 17 x5m).size) ⟨[(4, .bptr P 0)],h,69⟩ (fun s=>∃ s',z2b 0 s s'∧Q s'):=by
 have hr:List.range (z2t 17 x5m).size=[0,1,2,3,4,5,6,7]:=by kernel_rfl
 obtain ⟨w0,o0⟩:=z03 (g:=17) (p:=x5m) (i:=0) (dst:=some 19) (op:= .load 61 (.tmp 4)) (by kernel_rfl)
 obtain ⟨w1,o1⟩:=z03 (g:=17) (p:=x5m) (i:=1) (dst:=some 20) (op:= .nilCheck (.tmp 19)) (by kernel_rfl)
 obtain ⟨w2,o2⟩:=z03 (g:=17) (p:=x5m) (i:=2) (dst:=some 21) (op:= .fieldAddr 66 (.tmp 20) 0) (by kernel_rfl)
 obtain ⟨w3,o3⟩:=z03 (g:=17) (p:=x5m) (i:=3) (dst:=some 22) (op:= .fieldAddr 24 (.tmp 21) 0) (by kernel_rfl)
 obtain ⟨w4,o4⟩:=z03 (g:=17) (p:=x5m) (i:=4) (dst:=some 23) (op:= .load 3 (.tmp 22)) (by kernel_rfl)
 obtain ⟨w5,o5⟩:=z03 (g:=17) (p:=x5m) (i:=5) (dst:=some 24) (op:= .build 75 #[(0, .tmp 23)]) (by kernel_rfl)
 obtain ⟨w6,o6⟩:=z03 (g:=17) (p:=x5m) (i:=6) (dst:=some 6) (op:= .alloc 75) (by kernel_rfl)
 obtain ⟨w7,o7⟩:=z03 (g:=17) (p:=x5m) (i:=7) (dst:=none) (op:= .store 75 (.tmp 6) (.tmp 24)) (by kernel_rfl)
 rw [hr]
 refine z3q o0 (q:=false) (r:=[]) (ra:=[]) (res:=⟨true, .bptr 2 0,[]⟩) (z2p rfl hP) (x7e rfl hP) rfl rfl ?_
 refine z3q o1 (q:=false) (r:=[]) (ra:=[]) (res:=⟨true, .bptr 2 0,[]⟩) trivial rfl rfl rfl ?_
 refine z3q o2 (q:=false) (r:=[]) (ra:=[]) (res:=⟨true, .bptr 2 0,[]⟩) trivial (by kernel_rfl) rfl rfl ?_
 refine z3q o3 (q:=false) (r:=[]) (ra:=[]) (res:=⟨true, .bptr 2 0,[]⟩) trivial (by kernel_rfl) rfl rfl ?_
 refine z3q o4 (q:=false) (r:=[]) (ra:=[]) (res:=⟨true, .d (.int .i64 N),[]⟩) (z2p rfl h2) (ld3 rfl h2 rfl) rfl rfl ?_
 refine z3q o5 (q:=false) (r:=[]) (ra:=[]) (res:=⟨true, .d (.agg (w57 N)),[]⟩) trivial (w7n rfl) rfl rfl ?_
 refine z3q o6 (q:=false) (r:=[]) (ra:=[]) (res:=⟨true, .bptr h.length 0,[(h.length, .row (std.rep 101 [.int .i64 0]))]⟩) trivial w7u rfl rfl ?_
 have hF:z0e (z0o h h.length (.row (std.rep 101 [.int .i64 0]))) h.length= .row (std.rep 101 [.int .i64 0]):=z0b _ _ _
 refine z3q o7 (q:=false) (r:=[.int .i64 0]) (ra:=[]) (res:=⟨true, .bot,[(h.length, .row (fld N (fun _ _=>false)))]⟩) (w37 (y:= .int .i64 0) rfl hF rfl) (w4i rfl rfl hF) rfl rfl ?_
 refine z1t ⟨_,z2b.env (n:=0) (s:=⟨_,_,69⟩) (z04 fun x hx=>?_),hQ⟩
 simp only [List.mem_cons,List.not_mem_nil,or_false] at hx
 rcases hx with rfl|rfl<;>rfl
def w8b:List Bool:=[false,false,true,true,true,true]
theorem w47 {h:List AO} {P F:Nat} {Q:AS→Prop} (hQ:Q ⟨[(4, .bptr P 0),(6, .bptr F 0),(25, .clo (.func 78) [] [.bptr h.length 0])],z0o h h.length (.box [.bptr F 0]),69⟩):
  z4m P34 0 (z2t 17 w8b) (List.range (z2t 17 w8b).size) ⟨[(4, .bptr P 0),(6, .bptr F 0)],h,69⟩ Q:=by
 have hr:List.range (z2t 17 w8b).size=[0]:=by kernel_rfl
 obtain ⟨w0,o0⟩:=z03 (g:=17) (p:=w8b) (i:=0) (dst:=some 25) (op:= .call ⟨.value (.func 48),#[.tmp 6],#[75]⟩) (by kernel_rfl)
 rw [hr]
 exact x2m o0 w1s (z38.of_aret (s:=⟨_,h,69⟩) (Nat.zero_le _) (v2v (h:=h) (F:=F))) rfl (z1t hQ)
end Go.Am
end
section
namespace Go.Am
def R17:List Bool:=[false,true,false,true,true,true,true]
def X17:List Bool:=[false,true]++R17
def Y17:List Bool:=[true,false,true]++R17
def Z17:List Bool:=[false,false,true,false]++Y17
def W17:List Bool:=[false,false,true,true]++Z17
def x9k:List Bool:=[false,false]++Y17
def y9d:List Bool:=false::W17
def z50:List Bool:=[false,true]++W17
def y2d:List Bool:=[false,true,true]++W17
def z7b:List Bool:=[false,true,true]++Y17
def z7a:List Bool:=[true,true,true]++Y17
theorem v9n:z05 P34 17 R17=some (.rangeFunc (.tmp 25) #[26] (.region 6 (z2t 17 (false::R17)) false) (.block 1 (cdF 17 X17))):=by kernel_rfl
theorem sX17:cdF 17 X17= .seq (cdF 17 (false::X17)) (.seq (.seq (.region 8 (z2t 17 x9k) false) (.block 2 (.loop (cdF 17 Z17)))) (.seq (cdF 17 ([false,true]++Y17)) (.cond (.tmp 53) (.region 15 (z2t 17 z7b) true) (.region 16 (z2t 17 z7a) true)))):=by kernel_rfl
theorem sZ17:cdF 17 Z17= .seq (cdF 17 (false::Z17)) (.seq (.cond (.tmp 33) .skip (.exit 2)) (.seq (.block 3 (.seq (.region 10 (z2t 17 y9d) false) (.seq (.region 11 (z2t 17 z50) true) (.cond (.tmp 44) (.region 12 (z2t 17 y2d) false) .skip)))) (cdF 17 ([true,true,true]++Z17)))):=by kernel_rfl
theorem x74 {h:List AO} {z:Nat} {m:JM} (hz:z0e h z= .map (EJ.enc m)) (k:Int×Int):z3a std w8j h (.map z) (.d (EJ.ke k))=some ((y8g m k 0).map fun x=>(x.1,EJ.ve x.2)):=by
 have h1:=y0x y05 k m 0
 have h2:=y05.agg k
 have h3:=y05.kinds k
 simp only [z3a,w8j,hz]
 have e1:(z1n (EJ.ke k)==true&&z1d [SK.i,SK.i] (z00 (EJ.ke k)))=true:=by
  rw [show z1n (EJ.ke k)=true from h2,show z1d [SK.i,SK.i] (z00 (EJ.ke k))=true from h3]; rfl
 rw [e1,cond_true]
 have e2:=x27 [SK.i,SK.i] true (EJ.ke k) (EJ.enc m) 0
 rw [e2]
 exact h1
theorem w0z {env:List (Nat×AV)} {h:List AO} {new a c z:Nat} {m:JM} {k:Int×Int} (ha:z0r env a= .map z) (hz:z0e h z= .map (EJ.enc m)) (hc:z0r env c= .d (.agg [.int .i64 k.1, .int .i64 k.2])):
  ∃ q r,(z08 std E34.T env h (.lookup 67 (.tmp a) (.tmp c) false)).ok q r []∧z0i std E34.T env h new q r [] (.lookup 67 (.tmp a) (.tmp c) false)=some ⟨true, .d (.int .i64 ((z3e m k).getD 0)),[]⟩:=by
 have hf:=x74 hz k
 have hke:EJ.ke k= .agg [.int .i64 k.1, .int .i64 k.2]:=rfl
 rw [hke] at hf
 have hv:=z9i k m 0
 cases hi:y8g m k 0 with
 |none=>
  rw [hi] at hf hv
  rw [←hv]
  refine ⟨false,[],?_,?_⟩
  ·simp only [z08,z0n,ha,hc,z9k,w4a,hf,y23.ok]
   first
    |exact .inl ⟨rfl,rfl⟩
    |exact .inl ⟨trivial,trivial⟩
    |simp
  ·simp only [z0i,w4a]
   rfl
 |some x=>
  obtain ⟨i,v⟩:=x
  rw [hi] at hf hv
  rw [←hv]
  refine ⟨true,[.int .i64 (i:Nat),EJ.ve v],?_,?_⟩
  ·simp only [z08,z0n,ha,hc,z9k,w4a,hf,y23.ok]
   refine .inr ⟨i,EJ.ve v,EJ.ve v,?_, .inl (.refl _),?_,rfl⟩<;>first|rfl|trivial
  ·simp only [z0i,w4a]
   rfl
structure y2k (h:List AO) (N S:Int) (V:List (List D)) (n:Nat) (f:Nat→JM×JM) (P F M:Nat) (i k:Int) (g:Nat→Nat→Bool):Prop where
 fam:x5p h 1 N n S V n f
 hP:z0e h P= .box [.bptr 2 0]
 hF:z0e h F= .row (fld N g)
 hM:z0e h M= .box [.d (.int .i64 i), .d (.int .i64 k)]
 l1:1+(2+4*n)≤P
 l2:P<F
 l3:F<M
 l4:M<h.length
theorem y2k.keep {h h':List AO} {N S:Int} {V:List (List D)} {n:Nat} {f:Nat→JM×JM} {P F M:Nat} {i k:Int} {g:Nat→Nat→Bool} (hf:y2k h N S V n f P F M i k g) (hl:h.length≤h'.length) (hk:∀ j,1≤j→j<h.length→z0e h' j=z0e h j):y2k h' N S V n f P F M i k g:=by
 have a1:=hf.l1
 have a2:=hf.l2
 have a3:=hf.l3
 have a4:=hf.l4
 have a0:=hf.fam.len
 refine ⟨hf.fam.keep hl fun j h1 h2=>hk j (by omega) (by omega),?_,?_,?_,a1,a2,a3,by omega⟩
 ·rw [hk _ (by omega) (by omega)]; exact hf.hP
 ·rw [hk _ (by omega) (by omega)]; exact hf.hF
 ·rw [hk _ (by omega) (by omega)]; exact hf.hM
def x1d (P F M:Nat) (s:Int):List (Nat×AV):=[(4, .bptr P 0),(6, .bptr F 0),(7, .bptr M 0),(8, .d (.int .i64 s))]
def z5m (P F M n:Nat) (s j:Int):List (Nat×AV):=[(4, .bptr P 0),(6, .bptr F 0),(7, .bptr M 0),(8, .d (.int .i64 s)),(30,slN 1 n),(31, .d (.int .i64 (n:Int))),(32, .d (.int .i64 j))]
theorem y0q {P F M n:Nat} {s j:Int} {env:List (Nat×AV)} (h4:z0r env 4= .bptr P 0) (h6:z0r env 6= .bptr F 0) (h7:z0r env 7= .bptr M 0) (h8:z0r env 8= .d (.int .i64 s)) (h30:z0r env 30=slN 1 n) (h31:z0r env 31= .d (.int .i64 (n:Int))) (h32:z0r env 32= .d (.int .i64 j)):
  y2m (z5m P F M n s j) env:=by
 refine z04 fun x hx=>?_
 simp only [z5m,List.mem_cons,List.not_mem_nil,or_false] at hx
 rcases hx with rfl|rfl|rfl|rfl|rfl|rfl|rfl
 ·exact h4
 ·exact h6
 ·exact h7
 ·exact h8
 ·exact h30
 ·exact h31
 ·exact h32
theorem w42 {m:Nat} {h:List AO} (hm:m≤h.length) {N S:Int} {V:List (List D)} {n:Nat} (h0:0<n) {f:Nat→JM×JM} {P F M:Nat} {i k:Int} {g:Nat→Nat→Bool} (hf:y2k h N S V n f P F M i k g) {s:Int}
  {Q:AS→Prop} (hQ:Q ⟨z5m P F M n s ((0:Nat):Int),h,69⟩):
  z4m P34 m (z2t 17 x9k) (List.range (z2t 17 x9k).size) ⟨x1d P F M s,h,69⟩ (fun s=>∃ s',z2b m s s'∧Q s'):=by
 have hr:List.range (z2t 17 x9k).size=[0,1,2,3,4,5]:=by kernel_rfl
 obtain ⟨w0,o0⟩:=z03 (g:=17) (p:=x9k) (i:=0) (dst:=some 27) (op:= .load 61 (.tmp 4)) (by kernel_rfl)
 obtain ⟨w1,o1⟩:=z03 (g:=17) (p:=x9k) (i:=1) (dst:=some 28) (op:= .nilCheck (.tmp 27)) (by kernel_rfl)
 obtain ⟨w2,o2⟩:=z03 (g:=17) (p:=x9k) (i:=2) (dst:=some 29) (op:= .fieldAddr 66 (.tmp 28) 1) (by kernel_rfl)
 obtain ⟨w3,o3⟩:=z03 (g:=17) (p:=x9k) (i:=3) (dst:=some 30) (op:= .load 64 (.tmp 29)) (by kernel_rfl)
 obtain ⟨w4,o4⟩:=z03 (g:=17) (p:=x9k) (i:=4) (dst:=some 31) (op:= .call ⟨.builtin .len,#[.tmp 30],#[64]⟩) (by kernel_rfl)
 obtain ⟨w5,o5⟩:=z03 (g:=17) (p:=x9k) (i:=5) (dst:=some 32) (op:= .move (.const (.int .i64 0))) (by kernel_rfl)
 have hb:=hf.fam.b1
 rw [x6j h0] at hb
 rw [hr]
 refine osN o0 hm (q:=false) (r:=[]) (ra:=[]) (res:=⟨true, .bptr 2 0,[]⟩) (z2p rfl hf.hP) (x7e rfl hf.hP) rfl rfl ?_
 refine osN o1 hm (q:=false) (r:=[]) (ra:=[]) (res:=⟨true, .bptr 2 0,[]⟩) trivial rfl rfl rfl ?_
 refine osN o2 hm (q:=false) (r:=[]) (ra:=[]) (res:=⟨true, .bptr 2 4,[]⟩) trivial (by kernel_rfl) rfl rfl ?_
 refine osN o3 hm (q:=false) (r:=[]) (ra:=[]) (res:=⟨true,slN 1 n,[]⟩) (z2p rfl hb) (w9l rfl hb rfl) rfl rfl ?_
 refine osN o4 hm (q:=false) (r:=[]) (ra:=[]) (res:=⟨true, .d (.int .i64 (n:Int)),[]⟩) (by exact trivial) (u0a (b:=1) rfl) rfl rfl ?_
 refine osN o5 hm (q:=false) (r:=[]) (ra:=[]) (res:=⟨true, .d (.int .i64 0),[]⟩) trivial rfl rfl rfl ?_
 exact z1t ⟨_,z2b.env (n:=m) (s:=⟨_,_,69⟩) (y0q rfl rfl rfl rfl rfl rfl rfl),hQ⟩
theorem w0o {m:Nat} {h:List AO} (hm:m≤h.length) {N S:Int} {V:List (List D)} {n t:Nat} (ht:t<n) {f:Nat→JM×JM} (hf:x5p h 1 N n S V n f) {P F M:Nat} {s:Int}
  {Q:AS→Prop} (hQ:Q ⟨(10, .bptr h.length 0)::z5m P F M n s (t:Int),z0o (z0o h h.length (.box [.d .nilm, .d .nilm])) h.length (.box [.map (1+(2+4*t)), .map (1+(3+4*t))]),69⟩):
  z4m P34 m (z2t 17 y9d) (List.range (z2t 17 y9d).size) ⟨z5m P F M n s (t:Int),h,69⟩ (fun s=>∃ s',z2b m s s'∧Q s'):=by
 have hr:List.range (z2t 17 y9d).size=[0,1,2,3]:=by kernel_rfl
 obtain ⟨w0,o0⟩:=z03 (g:=17) (p:=y9d) (i:=0) (dst:=some 34) (op:= .indexAddr 64 (.tmp 30) (.tmp 32)) (by kernel_rfl)
 obtain ⟨w1,o1⟩:=z03 (g:=17) (p:=y9d) (i:=1) (dst:=some 35) (op:= .load 69 (.tmp 34)) (by kernel_rfl)
 obtain ⟨w2,o2⟩:=z03 (g:=17) (p:=y9d) (i:=2) (dst:=some 10) (op:= .alloc 69) (by kernel_rfl)
 obtain ⟨w3,o3⟩:=z03 (g:=17) (p:=y9d) (i:=3) (dst:=none) (op:= .store 69 (.tmp 10) (.tmp 35)) (by kernel_rfl)
 have harr:=hf.arr (by omega)
 rw [hr]
 refine osN o0 hm (q:=false) (r:=[]) (ra:=[]) (res:=⟨std.cmp .geq (t:Int) 0&&std.cmp .lss (t:Int) (std.ofNat n), .ptr (1+(4*n+1)) t 0,[]⟩) trivial (u0d rfl rfl) (inB ht) rfl ?_
 refine osN o1 hm (q:=false) (r:=[]) (ra:=[.map (1+(2+4*t)), .map (1+(3+4*t))]) (res:=⟨true, .agg [.map (1+(2+4*t)), .map (1+(3+4*t))],[]⟩) (w2y rfl harr (y87 ht)) (w52 rfl harr) rfl rfl ?_
 refine osN o2 hm (q:=false) (r:=[]) (ra:=[]) (res:=⟨true, .bptr h.length 0,[(h.length, .box [.d .nilm, .d .nilm])]⟩) trivial x9d rfl rfl ?_
 have hl:(z0o h h.length (.box [.d .nilm, .d .nilm])).length=h.length+1:=z09 _ _
 have hM:z0e (z0o h h.length (.box [.d .nilm, .d .nilm])) h.length= .box [.d .nilm, .d .nilm]:=z0b _ _ _
 refine osN o3 (by show m≤(z0o h h.length (.box [.d .nilm, .d .nilm])).length; omega) (q:=false) (r:=[]) (ra:=[]) (res:=⟨true, .bot,[(h.length, .box [.map (1+(2+4*t)), .map (1+(3+4*t))])]⟩) (x12 rfl hM) (x59 rfl rfl hM) rfl rfl ?_
 refine z1t ⟨_,z2b.env (n:=m) (s:=⟨_,_,69⟩) (z04 fun x hx=>?_),hQ⟩
 simp only [z5m,List.mem_cons,List.not_mem_nil,or_false] at hx
 rcases hx with rfl|rfl|rfl|rfl|rfl|rfl|rfl|rfl<;>rfl
theorem v3d:(E34.T 80).map (fun t=>(t.size,t.agg,t.zero))=some (2,true,[.int .i64 0, .int .i64 0]):=by kernel_rfl
theorem ld80 {env:List (Nat×AV)} {h:List AO} {new a M:Nat} {i k:Int} (ha:z0r env a= .bptr M 0) (hh:z0e h M= .box [.d (.int .i64 i), .d (.int .i64 k)]):
  z0i std E34.T env h new false [] [] (.load 80 (.tmp a))=some ⟨true, .d (.agg [.int .i64 i, .int .i64 k]),[]⟩:=by
 cases ht:E34.T 80 with
 |none=>have:=v3d; rw [ht] at this; cases this
 |some ti=>
  have h1:=v3d
  rw [ht] at h1
  simp only [Option.map_some,Option.some.injEq,Prod.mk.injEq] at h1
  simp only [z0i,z0n,ha,ht,z5f,z1k,hh,h1.1,h1.2.1]
  rfl
theorem w0l {m:Nat} {h:List AO} (hm:m≤h.length) {P F M L n x y:Nat} {i k:Int} {jm:JM} (hL:z0e h L= .box [.map x, .map y]) (hx:z0e h x= .map (EJ.enc jm)) (hM:z0e h M= .box [.d (.int .i64 i), .d (.int .i64 k)]) {s t:Int}
  {Q:AS→Prop} (hQ:Q ⟨z5m P F M n (std.ar .add .i64 s ((z3e jm (i,k)).getD 0)) t,h,69⟩):
  z4m P34 m (z2t 17 y2d) (List.range (z2t 17 y2d).size) ⟨(10, .bptr L 0)::z5m P F M n s t,h,69⟩ (fun s=>∃ s',z2b m s s'∧Q s'):=by
 have hr:List.range (z2t 17 y2d).size=[0,1,2,3,4,5,6]:=by kernel_rfl
 obtain ⟨w0,o0⟩:=z03 (g:=17) (p:=y2d) (i:=0) (dst:=some 45) (op:= .move (.tmp 8)) (by kernel_rfl)
 obtain ⟨w1,o1⟩:=z03 (g:=17) (p:=y2d) (i:=1) (dst:=some 46) (op:= .fieldAddr 69 (.tmp 10) 0) (by kernel_rfl)
 obtain ⟨w2,o2⟩:=z03 (g:=17) (p:=y2d) (i:=2) (dst:=some 47) (op:= .load 67 (.tmp 46)) (by kernel_rfl)
 obtain ⟨w3,o3⟩:=z03 (g:=17) (p:=y2d) (i:=3) (dst:=some 48) (op:= .load 80 (.tmp 7)) (by kernel_rfl)
 obtain ⟨w4,o4⟩:=z03 (g:=17) (p:=y2d) (i:=4) (dst:=some 49) (op:= .lookup 67 (.tmp 47) (.tmp 48) false) (by kernel_rfl)
 obtain ⟨w5,o5⟩:=z03 (g:=17) (p:=y2d) (i:=5) (dst:=some 50) (op:= .binOp .add 3 (.tmp 45) (.tmp 49) 3) (by kernel_rfl)
 obtain ⟨w6,o6⟩:=z03 (g:=17) (p:=y2d) (i:=6) (dst:=some 8) (op:= .assign (.tmp 50)) (by kernel_rfl)
 rw [hr]
 refine osN o0 hm (q:=false) (r:=[]) (ra:=[]) (res:=⟨true, .d (.int .i64 s),[]⟩) trivial rfl rfl rfl ?_
 refine osN o1 hm (q:=false) (r:=[]) (ra:=[]) (res:=⟨true, .bptr L 0,[]⟩) trivial (by kernel_rfl) rfl rfl ?_
 refine osN o2 hm (q:=false) (r:=[]) (ra:=[]) (res:=⟨true, .map x,[]⟩) (z2p rfl hL) (v5i rfl hL rfl) rfl rfl ?_
 refine osN o3 hm (q:=false) (r:=[]) (ra:=[]) (res:=⟨true, .d (.agg [.int .i64 i, .int .i64 k]),[]⟩) (z2p rfl hM) (ld80 rfl hM) rfl rfl ?_
 obtain ⟨q,r,hw,hs⟩:=w0z (env:=(48, .d (.agg [.int .i64 i, .int .i64 k]))::(47, .map x)::[]) (h:=h) (new:=h.length) (a:=47) (c:=48) (k:=(i,k)) rfl hx rfl
 refine osN o4 hm (q:=q) (r:=r) (ra:=[]) (res:=⟨true, .d (.int .i64 ((z3e jm (i,k)).getD 0)),[]⟩) hw hs rfl rfl ?_
 refine osN o5 hm (q:=false) (r:=[]) (ra:=[]) (res:=⟨true, .d (.int .i64 (std.ar .add .i64 s ((z3e jm (i,k)).getD 0))),[]⟩) trivial (by kernel_rfl) rfl rfl ?_
 refine osN o6 hm (q:=false) (r:=[]) (ra:=[]) (res:=⟨true, .d (.int .i64 (std.ar .add .i64 s ((z3e jm (i,k)).getD 0))),[]⟩) trivial rfl rfl rfl ?_
 exact z1t ⟨_,z2b.env (n:=m) (s:=⟨_,_,69⟩) (y0q rfl rfl rfl rfl rfl rfl rfl),hQ⟩
end Go.Am
end
section
namespace Go.Am
noncomputable def z5i (g:Nat) (p:List Bool) (i:Nat):Oper:=((z2t g p).toList[i]?).getD default
theorem z6k {L b:Nat} (h:L<b):∀ id∈[L],id<b:=by
 intro id hid
 rw [List.mem_singleton] at hid
 subst hid; exact h
theorem w0n {m:Nat} {h:List AO} (hm:m≤h.length) {N S:Int} {V:List (List D)} {n:Nat} {f:Nat→JM×JM} {P F M:Nat} {i k:Int} {g:Nat→Nat→Bool} (hf:y2k h N S V n f P F M i k g) {L x y:Nat} {jm:JM} (hLl:L<h.length) (hyl:y<h.length)
  (hL:z0e h L= .box [.map x, .map y]) (hy:z0e h y= .map (EJ.enc jm)) {s t:Int}
  {Q:AX→AS→Prop} (hQ:Q .normal ⟨(44, .d (.bool (std.cmp .leq (jm.length:Int) S)))::(10, .bptr L 0)::z5m P F M n s t,h,69⟩):
  z2s P34 m (.region 11 (z2t 17 z50) true) ⟨(10, .bptr L 0)::z5m P F M n s t,h,69⟩ (fun e s=>∃ s',z2b m s s'∧Q e s'):=by
 have hl:(z2t 17 z50).toList=[z5i 17 z50 0,z5i 17 z50 1,z5i 17 z50 2,z5i 17 z50 3,z5i 17 z50 4,z5i 17 z50 5,z5i 17 z50 6,z5i 17 z50 7,z5i 17 z50 8]:=by kernel_rfl
 have hb:=hf.fam.b1
 have a1:=hf.l1
 have a2:=hf.l2
 have a3:=hf.l3
 have a4:=hf.l4
 refine y00 (T:=E34.T) follows_mixed x24 hm (by kernel_rfl) (by kernel_rfl) ?_
 rw [hl, ←hl]
 suffices hgoal:DS P34 E34.T (z2t 17 z50).toList 69 h.length (fun s=>∃ s',z2b m s s'∧Q .normal s') [] 0 [z5i 17 z50 0,z5i 17 z50 1,z5i 17 z50 2,z5i 17 z50 3,z5i 17 z50 4,z5i 17 z50 5,z5i 17 z50 6,z5i 17 z50 7,z5i 17 z50 8] ⟨(10, .bptr L 0)::z5m P F M n s t,h,69⟩ by
  rw [←hl] at hgoal; exact hgoal
 refine z8d (dst:=some 36) (op:= .fieldAddr 69 (.tmp 10) 1) ⟨by kernel_rfl,by kernel_rfl,by kernel_rfl⟩ (q:=false) (r:=[]) (ra:=[]) (res:=⟨true, .bptr L 1,[]⟩) (by kernel_rfl) trivial (by kernel_rfl) rfl rfl (by intro id hid; cases hid) ?_
 refine z8d (dst:=some 37) (op:= .load 67 (.tmp 36)) ⟨by kernel_rfl,by kernel_rfl,by kernel_rfl⟩ (q:=false) (r:=[]) (ra:=[]) (res:=⟨true, .map y,[]⟩) (by kernel_rfl) (z2p rfl hL) (v5i rfl hL rfl) rfl rfl (z6k (L:=L) hLl) ?_
 refine z8d (dst:=some 38) (op:= .call ⟨.builtin .len,#[.tmp 37],#[67]⟩) ⟨by kernel_rfl,by kernel_rfl,by kernel_rfl⟩ (q:=false) (r:=[]) (ra:=[]) (res:=⟨true, .d (.int .i64 (jm.length:Int)),[]⟩) (by kernel_rfl) (by exact trivial) (v99 rfl hy) rfl rfl (z6k (L:=y) hyl) ?_
 refine z8d (dst:=some 39) (op:= .load 61 (.tmp 4)) ⟨by kernel_rfl,by kernel_rfl,by kernel_rfl⟩ (q:=false) (r:=[]) (ra:=[]) (res:=⟨true, .bptr 2 0,[]⟩) (by kernel_rfl) (z2p rfl hf.hP) (x7e rfl hf.hP) rfl rfl (z6k (L:=P) (by omega)) ?_
 refine z8d (dst:=some 40) (op:= .nilCheck (.tmp 39)) ⟨by kernel_rfl,by kernel_rfl,by kernel_rfl⟩ (q:=false) (r:=[]) (ra:=[]) (res:=⟨true, .bptr 2 0,[]⟩) (by kernel_rfl) trivial rfl rfl rfl (by intro id hid; cases hid) ?_
 refine z8d (dst:=some 41) (op:= .fieldAddr 66 (.tmp 40) 0) ⟨by kernel_rfl,by kernel_rfl,by kernel_rfl⟩ (q:=false) (r:=[]) (ra:=[]) (res:=⟨true, .bptr 2 0,[]⟩) (by kernel_rfl) trivial (by kernel_rfl) rfl rfl (by intro id hid; cases hid) ?_
 refine z8d (dst:=some 42) (op:= .fieldAddr 24 (.tmp 41) 2) ⟨by kernel_rfl,by kernel_rfl,by kernel_rfl⟩ (q:=false) (r:=[]) (ra:=[]) (res:=⟨true, .bptr 2 2,[]⟩) (by kernel_rfl) trivial (by kernel_rfl) rfl rfl (by intro id hid; cases hid) ?_
 refine z8d (dst:=some 43) (op:= .load 3 (.tmp 42)) ⟨by kernel_rfl,by kernel_rfl,by kernel_rfl⟩ (q:=false) (r:=[]) (ra:=[]) (res:=⟨true, .d (.int .i64 S),[]⟩) (by kernel_rfl) (z2p rfl hb) (ld3 rfl hb rfl) rfl rfl (z6k (L:=2) (by omega)) ?_
 refine z8d (dst:=some 44) (op:= .binOp .leq 3 (.tmp 38) (.tmp 43) 3) ⟨by kernel_rfl,by kernel_rfl,by kernel_rfl⟩ (q:=false) (r:=[]) (ra:=[]) (res:=⟨true, .d (.bool (std.cmp .leq (jm.length:Int) S)),[]⟩) (by kernel_rfl) trivial (by kernel_rfl) rfl rfl (by intro id hid; cases hid) ?_
 refine .nil ⟨_,z2b.env (n:=m) (s:=⟨_,h,69⟩) (z04 fun x hx=>?_),hQ⟩
 simp only [z5m,List.mem_cons,List.not_mem_nil,or_false] at hx
 rcases hx with rfl|rfl|rfl|rfl|rfl|rfl|rfl|rfl|rfl<;>rfl
theorem w9s {env:List (Nat×AV)} {h:List AO} {new a c F i:Nat} {es:List (List D)} (ha:z0r env a= .bptr F 1) (hb:z0r env c= .d (.int .i64 (i:Int))) (hh:z0e h F= .row es):
  z0i std E34.T env h new false [] [] (.indexAddr 73 (.tmp a) (.tmp c))=some ⟨std.cmp .geq (i:Int) 0&&std.cmp .lss (i:Int) (std.ofNat 10), .bptr F (1+i*10),[]⟩:=by
 have e:z0i std E34.T env h new false [] [] (.indexAddr 73 (.tmp a) (.tmp c))=(match E34.T 73 with|some ti=>z1l std std ti h [] (z0r env a) (z0r env c)|none=>none):=by
  simp only [z0i]
  rfl
 rw [e,ha,hb]
 have ht:∃ ti,E34.T 73=some ti∧ti.desc= .arr 10 10 true:=by
  have:(E34.T 73).map (fun t=>t.desc)=some (.arr 10 10 true):=by kernel_rfl
  cases hq:E34.T 73 with
  |none=>rw [hq] at this; cases this
  |some ti=>rw [hq] at this; exact ⟨ti,rfl,Option.some.inj this⟩
 obtain ⟨ti,h1,h2⟩:=ht
 rw [h1]
 simp only [z1l,h2,hh]
 rfl
theorem w9t {env:List (Nat×AV)} {h:List AO} {new a c F off k:Nat} {es:List (List D)} (ha:z0r env a= .bptr F off) (hb:z0r env c= .d (.int .i64 (k:Int))) (hh:z0e h F= .row es):
  z0i std E34.T env h new false [] [] (.indexAddr 72 (.tmp a) (.tmp c))=some ⟨std.cmp .geq (k:Int) 0&&std.cmp .lss (k:Int) (std.ofNat 10), .bptr F (off+k),[]⟩:=by
 have e:z0i std E34.T env h new false [] [] (.indexAddr 72 (.tmp a) (.tmp c))=(match E34.T 72 with|some ti=>z1l std std ti h [] (z0r env a) (z0r env c)|none=>none):=by
  simp only [z0i]
  rfl
 rw [e,ha,hb]
 have ht:∃ ti,E34.T 72=some ti∧ti.desc= .arr 10 1 false:=by
  have:(E34.T 72).map (fun t=>t.desc)=some (.arr 10 1 false):=by kernel_rfl
  cases hq:E34.T 72 with
  |none=>rw [hq] at this; cases this
  |some ti=>rw [hq] at this; exact ⟨ti,rfl,Option.some.inj this⟩
 obtain ⟨ti,h1,h2⟩:=ht
 rw [h1]
 simp only [z1l,h2,hh]
 rfl
theorem w8n {env:List (Nat×AV)} {h:List AO} {new a F off:Nat} {es:List (List D)} {y:D} (ha:z0r env a= .bptr F off) (hh:z0e h F= .row es):
  z0i std E34.T env h new false [y] [] (.store 3 (.tmp a) (.const (.int .i64 1)))=some ⟨true, .bot,[(F, .row (es.set off (eI 1)))]⟩:=by
 cases ht:E34.T 3 with
 |none=>have:=ty3; rw [ht] at this; cases this
 |some ti=>
  have h1:=ty3
  rw [ht] at h1
  simp only [Option.map_some,Option.some.injEq,Prod.mk.injEq] at h1
  obtain ⟨s,b,a',z,d,q⟩:=ti
  simp only at h1
  obtain ⟨rfl,rfl,rfl⟩:=h1
  have e:z0n env (.const (.int .i64 1))= .d (.int .i64 1):=rfl
  have e2:z0n env (.tmp a)= .bptr F off:=ha
  simp only [z0i,ht,e,e2,z2d,z1w,z1j,hh]
  rfl
end Go.Am
end
section
namespace Go.Am
theorem x13 {env:List (Nat×AV)} {h:List AO} {t:TypeId} {a F off:Nat} {c:Operand} {es:List (List D)} {y:D} (ha:z0r env a= .bptr F off) (hh:z0e h F= .row es) (he:es[off]?=some [y]):(z08 std E34.T env h (.store t (.tmp a) c)).ok false [y] []:=by
 simp only [z08,z0n,ha,z21,hh,y23.ok]
 intro j x hx
 match j,hx with
 |0,hx=>cases hx; exact ⟨[y],he,z68 _⟩
 |j+1,hx=>simp at hx
theorem w0j {m:Nat} {h:List AO} (hm:m≤h.length) {N:Int} {F M:Nat} {i k:Nat} (hi:i<10) (hk:k<10) {g:Nat→Nat→Bool} (hF:z0e h F= .row (fld N g)) (hM:z0e h M= .box [.d (.int .i64 (i:Int)), .d (.int .i64 (k:Int))]) (hFl:F<h.length) (hMl:M<h.length)
  {Q:AX→AS→Prop} (hQ:Q .normal ⟨[],z0o h F (.row (fld N (fun a b=>g a b||(decide (a=i)&&decide (b=k))))),69⟩):
  z2s P34 m (.region 15 (z2t 17 z7b) true) ⟨[(6, .bptr F 0),(7, .bptr M 0)],h,69⟩ (fun e s=>∃ s',z2b m s s'∧Q e s'):=by
 have hl:(z2t 17 z7b).toList=[z5i 17 z7b 0,z5i 17 z7b 1,z5i 17 z7b 2,z5i 17 z7b 3,z5i 17 z7b 4,z5i 17 z7b 5,z5i 17 z7b 6,z5i 17 z7b 7]:=by kernel_rfl
 have hfg:=z4y N g i k hi hk
 have hset:=x7w N g i k hi hk
 refine y00 (T:=E34.T) follows_mixed x24 hm (by kernel_rfl) (by kernel_rfl) ?_
 suffices hgoal:DS P34 E34.T (z2t 17 z7b).toList 69 h.length (fun s=>∃ s',z2b m s s'∧Q .normal s') [] 0 [z5i 17 z7b 0,z5i 17 z7b 1,z5i 17 z7b 2,z5i 17 z7b 3,z5i 17 z7b 4,z5i 17 z7b 5,z5i 17 z7b 6,z5i 17 z7b 7] ⟨[(6, .bptr F 0),(7, .bptr M 0)],h,69⟩ by
  rw [←hl] at hgoal; exact hgoal
 refine z8d (dst:=some 54) (op:= .fieldAddr 80 (.tmp 7) 0) ⟨by kernel_rfl,by kernel_rfl,by kernel_rfl⟩ (q:=false) (r:=[]) (ra:=[]) (res:=⟨true, .bptr M 0,[]⟩) (by kernel_rfl) trivial (by kernel_rfl) rfl rfl (by intro id hid; cases hid) ?_
 refine z8d (dst:=some 55) (op:= .load 3 (.tmp 54)) ⟨by kernel_rfl,by kernel_rfl,by kernel_rfl⟩ (q:=false) (r:=[]) (ra:=[]) (res:=⟨true, .d (.int .i64 (i:Int)),[]⟩) (by kernel_rfl) (z2p rfl hM) (ld3 rfl hM rfl) rfl rfl (z6k (L:=M) hMl) ?_
 refine z8d (dst:=some 56) (op:= .fieldAddr 80 (.tmp 7) 1) ⟨by kernel_rfl,by kernel_rfl,by kernel_rfl⟩ (q:=false) (r:=[]) (ra:=[]) (res:=⟨true, .bptr M 1,[]⟩) (by kernel_rfl) trivial (by kernel_rfl) rfl rfl (by intro id hid; cases hid) ?_
 refine z8d (dst:=some 57) (op:= .load 3 (.tmp 56)) ⟨by kernel_rfl,by kernel_rfl,by kernel_rfl⟩ (q:=false) (r:=[]) (ra:=[]) (res:=⟨true, .d (.int .i64 (k:Int)),[]⟩) (by kernel_rfl) (z2p rfl hM) (ld3 rfl hM rfl) rfl rfl (z6k (L:=M) hMl) ?_
 refine z8d (dst:=some 58) (op:= .fieldAddr 75 (.tmp 6) 1) ⟨by kernel_rfl,by kernel_rfl,by kernel_rfl⟩ (q:=false) (r:=[]) (ra:=[]) (res:=⟨true, .bptr F 1,[]⟩) (by kernel_rfl) trivial (by kernel_rfl) rfl rfl (by intro id hid; cases hid) ?_
 refine z8d (dst:=some 59) (op:= .indexAddr 73 (.tmp 58) (.tmp 55)) ⟨by kernel_rfl,by kernel_rfl,by kernel_rfl⟩ (q:=false) (r:=[]) (ra:=[]) (res:=⟨std.cmp .geq (i:Int) 0&&std.cmp .lss (i:Int) (std.ofNat 10), .bptr F (1+i*10),[]⟩) (by kernel_rfl) trivial (w9s rfl rfl hF) (inB (n:=10) hi) rfl (fun id hid=>z6k (L:=F) hFl id (by first|exact hid|(cases hid))) ?_
 refine z8d (dst:=some 60) (op:= .indexAddr 72 (.tmp 59) (.tmp 57)) ⟨by kernel_rfl,by kernel_rfl,by kernel_rfl⟩ (q:=false) (r:=[]) (ra:=[]) (res:=⟨std.cmp .geq (k:Int) 0&&std.cmp .lss (k:Int) (std.ofNat 10), .bptr F (1+i*10+k),[]⟩) (by kernel_rfl) trivial (w9t rfl rfl hF) (inB (n:=10) hk) rfl (fun id hid=>z6k (L:=F) hFl id (by first|exact hid|(cases hid))) ?_
 refine z8d (dst:=none) (op:= .store 3 (.tmp 60) (.const (.int .i64 1))) ⟨by kernel_rfl,by kernel_rfl,by kernel_rfl⟩ (q:=false) (r:=[.int .i64 (bif g i k then 1 else 0)]) (ra:=[]) (res:=⟨true, .bot,[(F, .row ((fld N g).set (1+i*10+k) (eI 1)))]⟩) (by kernel_rfl) (x13 rfl hF hfg) (w8n rfl hF) rfl rfl (z6k (L:=F) hFl) ?_
 rw [hset]
 refine .nil ⟨_,z2b.env (n:=m) (s:=⟨_,_,69⟩) (z04 fun x hx=>?_),hQ⟩
 cases hx
theorem w0i {m:Nat} {h:List AO} (hm:m≤h.length) {N:Int} {F M:Nat} {i k:Nat} (hi:i<10) (hk:k<10) {g:Nat→Nat→Bool} (hF:z0e h F= .row (fld N g)) (hM:z0e h M= .box [.d (.int .i64 (i:Int)), .d (.int .i64 (k:Int))]) (hFl:F<h.length) (hMl:M<h.length)
  {Q:AX→AS→Prop} (hQ:Q .normal ⟨[],z0o h F (.row (fld N (fun a b=>g a b||(decide (a=k)&&decide (b=i))))),69⟩):
  z2s P34 m (.region 16 (z2t 17 z7a) true) ⟨[(6, .bptr F 0),(7, .bptr M 0)],h,69⟩ (fun e s=>∃ s',z2b m s s'∧Q e s'):=by
 have hl:(z2t 17 z7a).toList=[z5i 17 z7a 0,z5i 17 z7a 1,z5i 17 z7a 2,z5i 17 z7a 3,z5i 17 z7a 4,z5i 17 z7a 5,z5i 17 z7a 6,z5i 17 z7a 7]:=by kernel_rfl
 have hfg:=z4y N g k i hk hi
 have hset:=x7w N g k i hk hi
 refine y00 (T:=E34.T) follows_mixed x24 hm (by kernel_rfl) (by kernel_rfl) ?_
 suffices hgoal:DS P34 E34.T (z2t 17 z7a).toList 69 h.length (fun s=>∃ s',z2b m s s'∧Q .normal s') [] 0 [z5i 17 z7a 0,z5i 17 z7a 1,z5i 17 z7a 2,z5i 17 z7a 3,z5i 17 z7a 4,z5i 17 z7a 5,z5i 17 z7a 6,z5i 17 z7a 7] ⟨[(6, .bptr F 0),(7, .bptr M 0)],h,69⟩ by
  rw [←hl] at hgoal; exact hgoal
 refine z8d (dst:=some 61) (op:= .fieldAddr 80 (.tmp 7) 1) ⟨by kernel_rfl,by kernel_rfl,by kernel_rfl⟩ (q:=false) (r:=[]) (ra:=[]) (res:=⟨true, .bptr M 1,[]⟩) (by kernel_rfl) trivial (by kernel_rfl) rfl rfl (by intro id hid; cases hid) ?_
 refine z8d (dst:=some 62) (op:= .load 3 (.tmp 61)) ⟨by kernel_rfl,by kernel_rfl,by kernel_rfl⟩ (q:=false) (r:=[]) (ra:=[]) (res:=⟨true, .d (.int .i64 (k:Int)),[]⟩) (by kernel_rfl) (z2p rfl hM) (ld3 rfl hM rfl) rfl rfl (z6k (L:=M) hMl) ?_
 refine z8d (dst:=some 63) (op:= .fieldAddr 80 (.tmp 7) 0) ⟨by kernel_rfl,by kernel_rfl,by kernel_rfl⟩ (q:=false) (r:=[]) (ra:=[]) (res:=⟨true, .bptr M 0,[]⟩) (by kernel_rfl) trivial (by kernel_rfl) rfl rfl (by intro id hid; cases hid) ?_
 refine z8d (dst:=some 64) (op:= .load 3 (.tmp 63)) ⟨by kernel_rfl,by kernel_rfl,by kernel_rfl⟩ (q:=false) (r:=[]) (ra:=[]) (res:=⟨true, .d (.int .i64 (i:Int)),[]⟩) (by kernel_rfl) (z2p rfl hM) (ld3 rfl hM rfl) rfl rfl (z6k (L:=M) hMl) ?_
 refine z8d (dst:=some 65) (op:= .fieldAddr 75 (.tmp 6) 1) ⟨by kernel_rfl,by kernel_rfl,by kernel_rfl⟩ (q:=false) (r:=[]) (ra:=[]) (res:=⟨true, .bptr F 1,[]⟩) (by kernel_rfl) trivial (by kernel_rfl) rfl rfl (by intro id hid; cases hid) ?_
 refine z8d (dst:=some 66) (op:= .indexAddr 73 (.tmp 65) (.tmp 62)) ⟨by kernel_rfl,by kernel_rfl,by kernel_rfl⟩ (q:=false) (r:=[]) (ra:=[]) (res:=⟨std.cmp .geq (k:Int) 0&&std.cmp .lss (k:Int) (std.ofNat 10), .bptr F (1+k*10),[]⟩) (by kernel_rfl) trivial (w9s rfl rfl hF) (inB (n:=10) hk) rfl (fun id hid=>z6k (L:=F) hFl id (by first|exact hid|(cases hid))) ?_
 refine z8d (dst:=some 67) (op:= .indexAddr 72 (.tmp 66) (.tmp 64)) ⟨by kernel_rfl,by kernel_rfl,by kernel_rfl⟩ (q:=false) (r:=[]) (ra:=[]) (res:=⟨std.cmp .geq (i:Int) 0&&std.cmp .lss (i:Int) (std.ofNat 10), .bptr F (1+k*10+i),[]⟩) (by kernel_rfl) trivial (w9t rfl rfl hF) (inB (n:=10) hi) rfl (fun id hid=>z6k (L:=F) hFl id (by first|exact hid|(cases hid))) ?_
 refine z8d (dst:=none) (op:= .store 3 (.tmp 67) (.const (.int .i64 1))) ⟨by kernel_rfl,by kernel_rfl,by kernel_rfl⟩ (q:=false) (r:=[.int .i64 (bif g k i then 1 else 0)]) (ra:=[]) (res:=⟨true, .bot,[(F, .row ((fld N g).set (1+k*10+i) (eI 1)))]⟩) (by kernel_rfl) (x13 rfl hF hfg) (w8n rfl hF) rfl rfl (z6k (L:=F) hFl) ?_
 rw [hset]
 refine .nil ⟨_,z2b.env (n:=m) (s:=⟨_,_,69⟩) (z04 fun x hx=>?_),hQ⟩
 cases hx
end Go.Am
end
section
namespace Go.Am
theorem cX17:z05 P34 17 (false::X17)=some (cdF 17 (false::X17)):=by kernel_rfl
theorem v74:z05 P34 17 (false::Z17)=some (cdF 17 (false::Z17)):=by kernel_rfl
theorem v2b:z05 P34 17 ([true,true,true]++Z17)=some (cdF 17 ([true,true,true]++Z17)):=by kernel_rfl
theorem v19:z05 P34 17 ([false,true]++Y17)=some (cdF 17 ([false,true]++Y17)):=by kernel_rfl
theorem eX17 (m P F M:Nat) (h:List AO):y3s m 17 (false::X17) [(4, .bptr P 0),(6, .bptr F 0),(7, .bptr M 0)] h 69=some (.normal,⟨⟨x1d P F M 0,h,69⟩,[]⟩):=by kernel_rfl
theorem v7r (m P F M n:Nat) (s j:Int) (h:List AO):y3s m 17 (false::Z17) (z5m P F M n s j) h 69=some (.normal,⟨⟨z5m P F M n s j++[(33, .d (.bool (std.cmp .lss j (n:Int))))],h,69⟩,[]⟩):=by kernel_rfl
theorem v0v (m P F M n:Nat) (s j:Int) (h:List AO):y3s m 17 ([true,true,true]++Z17) (z5m P F M n s j) h 69=some (.normal,⟨⟨z5m P F M n s (std.ar .add .i64 j 1)++[(51, .d (.int .i64 (std.ar .add .i64 j 1)))],h,69⟩,[]⟩):=by kernel_rfl
theorem v0t (m P F M:Nat) (s:Int) (h:List AO):y3s m 17 ([false,true]++Y17) (x1d P F M s) h 69=some (.normal,⟨⟨x1d P F M s++[(52, .d (.int .i64 s)),(53, .d (.bool (std.cmp .geq s 0)))],h,69⟩,[]⟩):=by kernel_rfl
theorem x6m {l:List Vt} (hv:∀ v∈l,v.2.1≠v.2.2) (j x y:Int) (hxy:x<y): -1≤((z3e (z1g l j).1 (x,y)).getD 0:Int)∧((z3e (z1g l j).1 (x,y)).getD 0:Int)≤1:=by
 rw [y9j hv j x y hxy]
 cases z23 l j x y<;>cases z23 l j y x<;>decide
theorem w4g {l:List Vt} (hv:∀ v∈l,v.2.1≠v.2.2) (S x y:Int) (hxy:x<y) (m:Nat): -(m:Int)≤y0h l S x y m∧y0h l S x y m≤(m:Int):=by
 induction m with
 |zero=>simp [y0h]
 |succ m ih=>
  have:=x6m hv (m:Int) x y hxy
  rw [y0h]
  split<;>omega
theorem w07 {m:Nat} {h:List AO} (hm:m≤h.length) {N S:Int} {V:List (List D)} {n:Nat} (hn:n≤1000) {l:List Vt} (hv:∀ v∈l,v.2.1≠v.2.2) {P F M:Nat} {i k:Int} (hik:i<k) {g:Nat→Nat→Bool}
  (hf:y2k h N S V n (fun j=>z1g l (j:Int)) P F M i k g) {Q:AX→AS→Prop} (hQ:∀ h',m≤h'.length→h.length≤h'.length→y2k h' N S V n (fun j=>z1g l (j:Int)) P F M i k g→Q (.exit 2) ⟨x1d P F M (y0h l S i k n),h',69⟩):
  z2s P34 m (.loop (cdF 17 Z17)) ⟨z5m P F M n 0 ((0:Nat):Int),h,69⟩ Q:=by
 let ι:={ x:Nat×List AO // x.1≤n∧m≤x.2.length∧h.length≤x.2.length∧y2k x.2 N S V n (fun j=>z1g l (j:Int)) P F M i k g }
 let I:ι→AS:=fun q=>⟨z5m P F M n (y0h l S i k q.1.1) (q.1.1:Nat),q.1.2,69⟩
 refine z7n (ι:=ι) I (fun q=>n - q.1.1) (fun _ _=>rfl) ?_ ⟨(0,h),Nat.zero_le _,hm,Nat.le_refl _,hf⟩
 rintro ⟨⟨t,h1⟩,ht,hm1,hl1,hf1⟩
 have hm1:m≤h1.length:=hm1
 have hl1:h.length≤h1.length:=hl1
 have hf1:y2k h1 N S V n (fun j=>z1g l (j:Int)) P F M i k g:=hf1
 rw [sZ17]
 refine z0h ?_
 refine (rgN v74 hm1 (v7r m P F M n (y0h l S i k t) (t:Int) h1)).mono ?_
 rintro e s ⟨rfl,rfl⟩
 refine z0h ?_
 by_cases hlt:t<n
 ·have hc:std.cmp .lss (t:Int) (n:Int)=true:=by rw [z4d]; exact decide_eq_true (by omega)
  refine z1v (t:=true) (by show AV.d (.bool (std.cmp .lss (t:Int) (n:Int)))=_; rw [hc]) ?_
  rw [if_pos rfl]
  refine z4j ?_
  refine z06 (s':=⟨z5m P F M n (y0h l S i k t) (t:Int),h1,69⟩) (z2b.env (n:=m) (s:=⟨_,h1,69⟩) (y0q rfl rfl rfl rfl rfl rfl rfl)) ?_
  refine z0h (z1f (z0h (z0t (z0z ?_))))
  refine w0o hm1 hlt hf1.fam (Q:=fun s'=>z2s P34 m (.seq (.region 11 (z2t 17 z50) true) (.cond (.tmp 44) (.region 12 (z2t 17 y2d) false) .skip)) s' _) ?_
  have hh1:=hf1.fam.len
  have l2:(z0o (z0o h1 h1.length (.box [.d .nilm, .d .nilm])) h1.length (.box [.map (1+(2+4*t)), .map (1+(3+4*t))])).length=h1.length+1:=by
   rw [z0q _ _ _ (by rw [z09]; omega),z09]
  have k2:∀ j,j<h1.length→z0e (z0o (z0o h1 h1.length (.box [.d .nilm, .d .nilm])) h1.length (.box [.map (1+(2+4*t)), .map (1+(3+4*t))])) j=z0e h1 j:=fun j hj=>by
   rw [z0a _ _ _ _ (by omega),z0a _ _ _ _ (by omega)]
  have m2:z0e (z0o (z0o h1 h1.length (.box [.d .nilm, .d .nilm])) h1.length (.box [.map (1+(2+4*t)), .map (1+(3+4*t))])) h1.length= .box [.map (1+(2+4*t)), .map (1+(3+4*t))]:=z0b _ _ _
  have hL:h1.length<h1.length+1:=Nat.lt_succ_self _
  generalize z0o (z0o h1 h1.length (.box [.d .nilm, .d .nilm])) h1.length (.box [.map (1+(2+4*t)), .map (1+(3+4*t))])=h2 at l2 k2 m2⊢
  have hf2:=hf1.keep (h':=h2) (by omega) (fun j _ hj=>k2 j (by omega))
  refine z0h (z0t (w0n (by omega) hf2 (L:=h1.length) (x:=1+(2+4*t)) (y:=1+(3+4*t)) (jm:=(z1g l (t:Int)).2) (by omega) (by omega) m2 (hf2.fam.slip t hlt) ?_))
  have fin:∀ s',s'=y0h l S i k (t+1)→z2s P34 m (cdF 17 ([true,true,true]++Z17)) ⟨z5m P F M n s' (t:Int),h2,69⟩ (fun e s'=>match e with| .normal=>∃ q':ι,s'=I q'∧n - q'.1.1<n - t|e=>Q e s'):=by
   rintro s' rfl
   refine z0t ((rgN v2b (by show m≤h2.length; omega) (v0v m P F M n (y0h l S i k (t+1)) (t:Int) h2)).mono ?_)
   rintro e s ⟨rfl,rfl⟩
   rw [w74 (i:=t) (by omega)]
   exact ⟨⟨z5m P F M n (y0h l S i k (t+1)) ((t+1:Nat):Int),h2,69⟩,z2b.env (n:=m) (s:=⟨_,h2,69⟩) (y0q rfl rfl rfl rfl rfl rfl rfl),⟨⟨(t+1,h2),hlt,by show m≤h2.length; omega,by show h.length≤h2.length; omega,hf2⟩,rfl,by show n - (t+1)<n - t; omega⟩⟩
  by_cases hs:(((z1g l (t:Int)).2.length:Nat):Int)≤S
  ·have hc2:std.cmp .leq (((z1g l (t:Int)).2.length:Nat):Int) S=true:=by rw [y60]; exact decide_eq_true hs
   refine z1v (t:=true) (by show AV.d (.bool (std.cmp .leq _ S))=_; rw [hc2]) ?_
   rw [if_pos rfl]
   refine z06 (s':=⟨(10, .bptr h1.length 0)::z5m P F M n (y0h l S i k t) (t:Int),h2,69⟩) (z2b.env (n:=m) (s:=⟨_,h2,69⟩) (z04 fun x hx=>by
    simp only [z5m,List.mem_cons,List.not_mem_nil,or_false] at hx
    rcases hx with rfl|rfl|rfl|rfl|rfl|rfl|rfl|rfl<;>rfl)) ?_
   refine z0t (z0z ?_)
   refine w0l (by omega) m2 (hf2.fam.said t hlt) hf2.hM ?_
   have b1:=w4g hv S i k hik t
   have b2:=x6m hv (t:Int) i k hik
   have hw:std.ar .add .i64 (y0h l S i k t) ((z3e (z1g l (t:Int)).1 (i,k)).getD 0)=y0h l S i k (t+1):=by
    rw [z0g,x11 _ (by omega) (by omega),y0h,if_pos hs]
   exact fin _ hw
  ·have hc2:std.cmp .leq (((z1g l (t:Int)).2.length:Nat):Int) S=false:=by rw [y60]; exact decide_eq_false hs
   refine z1v (t:=false) (by show AV.d (.bool (std.cmp .leq _ S))=_; rw [hc2]) ?_
   rw [if_neg (by simp)]
   refine z4j ?_
   refine z06 (s':=⟨z5m P F M n (y0h l S i k t) (t:Int),h2,69⟩) (z2b.env (n:=m) (s:=⟨_,h2,69⟩) (y0q rfl rfl rfl rfl rfl rfl rfl)) ?_
   exact fin _ (by rw [y0h,if_neg hs,Int.add_zero])
 ·have htl:t=n:=by omega
  subst htl
  have hc:std.cmp .lss (t:Int) (t:Int)=false:=by rw [z4d]; exact decide_eq_false (by omega)
  refine z1v (t:=false) (by show AV.d (.bool (std.cmp .lss (t:Int) (t:Int)))=_; rw [hc]) ?_
  rw [if_neg (by simp)]
  refine z06 (s':=⟨x1d P F M (y0h l S i k t),h1,69⟩) (z2b.env (n:=m) (s:=⟨_,h1,69⟩) (z04 fun x hx=>by
   simp only [x1d,List.mem_cons,List.not_mem_nil,or_false] at hx
   rcases hx with rfl|rfl|rfl|rfl<;>rfl)) ?_
  exact z56 (hQ h1 hm1 hl1 hf1)
structure w33 (h:List AO) (N S:Int) (V:List (List D)) (n:Nat) (f:Nat→JM×JM) (P F:Nat) (g:Nat→Nat→Bool):Prop where
 fam:x5p h 1 N n S V n f
 hP:z0e h P= .box [.bptr 2 0]
 hF:z0e h F= .row (fld N g)
 l1:1+(2+4*n)≤P
 l2:P<F
 l3:F<h.length
theorem w33.keep {h h':List AO} {N S:Int} {V:List (List D)} {n:Nat} {f:Nat→JM×JM} {P F:Nat} {g:Nat→Nat→Bool} (hf:w33 h N S V n f P F g) (hl:h.length≤h'.length) (hk:∀ j,1≤j→j≤F→z0e h' j=z0e h j):w33 h' N S V n f P F g:=by
 have a1:=hf.l1
 have a2:=hf.l2
 have a3:=hf.l3
 have a0:=hf.fam.len
 refine ⟨hf.fam.keep hl fun j h1 h2=>hk j (by omega) (by omega),?_,?_,a1,a2,by omega⟩
 ·rw [hk _ (by omega) (by omega)]; exact hf.hP
 ·rw [hk _ (by omega) (by omega)]; exact hf.hF
def v30 (g:Nat→Nat→Bool) (i k:Nat) (d:Bool):Nat→Nat→Bool:=fun a b=>g a b||(bif d then decide (a=i)&&decide (b=k) else decide (a=k)&&decide (b=i))
theorem y2k.put {h:List AO} {N S:Int} {V:List (List D)} {n:Nat} {f:Nat→JM×JM} {P F M:Nat} {i k:Int} {g g':Nat→Nat→Bool} (hf:y2k h N S V n f P F M i k g):w33 (z0o h F (.row (fld N g'))) N S V n f P F g':=by
 have a1:=hf.l1
 have a2:=hf.l2
 have a3:=hf.l3
 have a4:=hf.l4
 have key:∀ j,j≠F→z0e (z0o h F (.row (fld N g'))) j=z0e h j:=fun j hj=>z0a _ _ _ _ (Ne.symm hj)
 have hl:(z0o h F (.row (fld N g'))).length=h.length:=z0q _ _ _ (by omega)
 refine ⟨hf.fam.keep (by omega) fun j h1 h2=>key j (by omega),?_,z0b _ _ _,a1,a2,by omega⟩
 rw [key _ (by omega)]; exact hf.hP
theorem w7t {env:List (Nat×AV)} {h:List AO} {new:Nat}:z0i std E34.T env h new false [] [] (.alloc 80)=some ⟨true, .bptr new 0,[(new, .box [.d (.int .i64 0), .d (.int .i64 0)])]⟩:=by kernel_rfl
theorem w4h {env:List (Nat×AV)} {h:List AO} {new a c M:Nat} {i k:Int} (ha:z0r env a= .bptr M 0) (hc:z0r env c= .d (.agg [.int .i64 i, .int .i64 k])) (hh:z0e h M= .box [.d (.int .i64 0), .d (.int .i64 0)]):
  z0i std E34.T env h new false [] [] (.store 80 (.tmp a) (.tmp c))=some ⟨true, .bot,[(M, .box [.d (.int .i64 i), .d (.int .i64 k)])]⟩:=by
 cases ht:E34.T 80 with
 |none=>have:=v3d; rw [ht] at this; cases this
 |some ti=>
  have h1:=v3d
  rw [ht] at h1
  simp only [Option.map_some,Option.some.injEq,Prod.mk.injEq] at h1
  obtain ⟨s,b,a',z,d,q⟩:=ti
  simp only at h1
  obtain ⟨rfl,rfl,rfl⟩:=h1
  simp only [z0i,ht,z0n,ha,hc,z2d,z1w,z1j,hh]
  rfl
def z7l (P F X:Nat):List (Nat×AV):=[(4, .bptr P 0),(6, .bptr F 0),(25, .clo (.func 78) [] [.bptr X 0])]
theorem w4w {m:Nat} {h:List AO} (hm:m≤h.length) {N S:Int} {l:List Vt} {n:Nat} (hv:∀ v∈l,¬ z6x N n v) (h0:0<n) (hn:n≤1000) {P F X:Nat} {i k:Nat} (hik:i<k) (hk:k<10) {g:Nat→Nat→Bool}
  (hf:w33 h N S (z0k l) n (fun j=>z1g l (j:Int)) P F g) {K:AX→AS→Prop} (hK:∀ env h',h.length≤h'.length→w33 h' N S (z0k l) n (fun j=>z1g l (j:Int)) P F (v30 g i k (decide (0≤y0h l S i k n)))→K .normal ⟨env,h',69⟩):
  z2s P34 m (.region 6 (z2t 17 (false::R17)) false) ⟨y64 (z7l P F X) [26] [.d (.agg [.int .i64 (i:Int), .int .i64 (k:Int)])],h,69⟩ (fun e s1=>e= .normal∧z2s P34 m (.block 1 (cdF 17 X17)) s1 K):=by
 have hv':∀ v∈l,v.2.1≠v.2.2:=fun v hm e=>hv v hm (.inr (.inr (.inr (.inr (.inr (.inr e))))))
 have hr:List.range (z2t 17 (false::R17)).size=[0,1]:=by kernel_rfl
 obtain ⟨w0,o0⟩:=z03 (g:=17) (p:=false::R17) (i:=0) (dst:=some 7) (op:= .alloc 80) (by kernel_rfl)
 obtain ⟨w1,o1⟩:=z03 (g:=17) (p:=false::R17) (i:=1) (dst:=none) (op:= .store 80 (.tmp 7) (.tmp 26)) (by kernel_rfl)
 refine z0z ?_
 rw [hr]
 refine osN o0 hm (q:=false) (r:=[]) (ra:=[]) (res:=⟨true, .bptr h.length 0,[(h.length, .box [.d (.int .i64 0), .d (.int .i64 0)])]⟩) trivial w7t rfl rfl ?_
 have hl1:(z0o h h.length (.box [.d (.int .i64 0), .d (.int .i64 0)])).length=h.length+1:=z09 _ _
 have hM:z0e (z0o h h.length (.box [.d (.int .i64 0), .d (.int .i64 0)])) h.length= .box [.d (.int .i64 0), .d (.int .i64 0)]:=z0b _ _ _
 refine osN o1 (by show m≤(z0o h h.length (.box [.d (.int .i64 0), .d (.int .i64 0)])).length; omega) (q:=false) (r:=[]) (ra:=[]) (res:=⟨true, .bot,[(h.length, .box [.d (.int .i64 (i:Int)), .d (.int .i64 (k:Int))])]⟩) (x12 rfl hM) (w4h rfl rfl hM) rfl rfl ?_
 refine z1t ⟨rfl,?_⟩
 have hl2:(z0o (z0o h h.length (.box [.d (.int .i64 0), .d (.int .i64 0)])) h.length (.box [.d (.int .i64 (i:Int)), .d (.int .i64 (k:Int))])).length=h.length+1:=by rw [z0q _ _ _ (by omega)]; exact hl1
 have hk2:∀ j,j<h.length→z0e (z0o (z0o h h.length (.box [.d (.int .i64 0), .d (.int .i64 0)])) h.length (.box [.d (.int .i64 (i:Int)), .d (.int .i64 (k:Int))])) j=z0e h j:=fun j hj=>by
  rw [z0a _ _ _ _ (by omega),z0a _ _ _ _ (by omega)]
 have hM2:z0e (z0o (z0o h h.length (.box [.d (.int .i64 0), .d (.int .i64 0)])) h.length (.box [.d (.int .i64 (i:Int)), .d (.int .i64 (k:Int))])) h.length= .box [.d (.int .i64 (i:Int)), .d (.int .i64 (k:Int))]:=z0b _ _ _
 show z2s P34 m _ ⟨_,z0o (z0o h h.length (.box [.d (.int .i64 0), .d (.int .i64 0)])) h.length (.box [.d (.int .i64 (i:Int)), .d (.int .i64 (k:Int))]),69⟩ _
 generalize z0o (z0o h h.length (.box [.d (.int .i64 0), .d (.int .i64 0)])) h.length (.box [.d (.int .i64 (i:Int)), .d (.int .i64 (k:Int))])=h2 at hl2 hk2 hM2⊢
 have a1:=hf.l1
 have a2:=hf.l2
 have a3:=hf.l3
 have a0:=hf.fam.len
 have hf2:y2k h2 N S (z0k l) n (fun j=>z1g l (j:Int)) P F h.length (i:Int) (k:Int) g:=
  ⟨hf.fam.keep (by omega) fun j h1 h3=>hk2 j (by omega),by rw [hk2 _ (by omega)]; exact hf.hP,by rw [hk2 _ (by omega)]; exact hf.hF,hM2,a1,a2,a3,by omega⟩
 refine z06 (s':=⟨[(4, .bptr P 0),(6, .bptr F 0),(7, .bptr h.length 0)],h2,69⟩) (z2b.env (n:=m) (s:=⟨_,h2,69⟩) (z04 fun x hx=>by
  simp only [List.mem_cons,List.not_mem_nil,or_false] at hx
  rcases hx with rfl|rfl|rfl<;>rfl)) ?_
 refine z1f ?_
 rw [sX17]
 have hm2:m≤h2.length:=by omega
 refine z0h ((rgN cX17 hm2 (eX17 m P F h.length h2)).mono ?_)
 rintro e s ⟨rfl,rfl⟩
 refine z0h (z0h (z0t (z0z (w42 hm2 h0 hf2 (Q:=fun s'=>z2s P34 m (.block 2 (.loop (cdF 17 Z17))) s' _) ?_))))
 refine z1f ?_
 refine w07 hm2 hn hv' (show (i:Int)<(k:Int) by omega) hf2 fun h3 hm3 hl3 hf3=>?_
 simp only [if_true]
 refine z0h ((rgN v19 hm3 (v0t m P F h.length (y0h l S i k n) h3)).mono ?_)
 rintro e s ⟨rfl,rfl⟩
 have hc:std.cmp .geq (y0h l S i k n) 0=decide (0≤y0h l S i k n):=by rw [y3k]
 refine z1v (t:=decide (0≤y0h l S i k n)) (by show AV.d (.bool (std.cmp .geq (y0h l S i k n) 0))=_; rw [hc]) ?_
 refine z06 (s':=⟨[(6, .bptr F 0),(7, .bptr h.length 0)],h3,69⟩) (z2b.env (n:=m) (s:=⟨_,h3,69⟩) (z04 fun x hx=>by
  simp only [List.mem_cons,List.not_mem_nil,or_false] at hx
  rcases hx with rfl|rfl<;>rfl)) ?_
 have b3:=hf3.l3
 have b4:=hf3.l4
 cases hd:decide (0≤y0h l S i k n) with
 |true=>
  rw [if_pos rfl]
  refine z0t (w0j hm3 (by omega) hk hf3.hF hf3.hM (by omega) b4 ?_)
  refine hK _ _ ?_ ?_
  ·rw [z0q _ _ _ (by omega)]; omega
  ·rw [hd]; exact hf3.put
 |false=>
  rw [if_neg (by simp)]
  refine z0t (w0i hm3 (by omega) hk hf3.hF hf3.hM (by omega) b4 ?_)
  refine hK _ _ ?_ ?_
  ·rw [z0q _ _ _ (by omega)]; omega
  ·rw [hd]; exact hf3.put
end Go.Am
end
section
namespace Go.Am
def A78:List Bool:=[false,false,true]
def B78:List Bool:=[false,false,true,true]++A78
def C78:List Bool:=[false,false,true,true]++B78
def D78:List Bool:=[false,false,true,true]++C78
def x9m:List Bool:=[false,true]++D78
theorem s78:cdF 78 []= .seq (.region 0 (z2t 78 [false]) false) (.block 0 (.loop (cdF 78 A78))):=by kernel_rfl
theorem sA78:cdF 78 A78= .seq (cdF 78 (false::A78)) (.seq (.cond (.tmp 10) .skip (.exit 0)) (.seq (.block 1 (.seq (cdF 78 (false::B78)) (.seq (cdF 78 ([false,true]++B78)) (.block 2 (.loop (cdF 78 C78)))))) (cdF 78 ([true,true,true]++A78)))):=by kernel_rfl
theorem sC78:cdF 78 C78= .seq (cdF 78 (false::C78)) (.seq (.cond (.tmp 14) .skip (.exit 2)) (.seq (.block 3 (.seq (cdF 78 (false::D78)) (.seq (.region 6 (z2t 78 x9m) false) (.cond (.tmp 21) .ret .skip)))) (cdF 78 ([true,true,true]++C78)))):=by kernel_rfl
theorem v14:z05 P34 78 (false::A78)=some (cdF 78 (false::A78)):=by kernel_rfl
theorem v13:z05 P34 78 ([true,true,true]++A78)=some (cdF 78 ([true,true,true]++A78)):=by kernel_rfl
theorem v12:z05 P34 78 (false::B78)=some (cdF 78 (false::B78)):=by kernel_rfl
theorem v11:z05 P34 78 ([false,true]++B78)=some (cdF 78 ([false,true]++B78)):=by kernel_rfl
theorem v10:z05 P34 78 (false::C78)=some (cdF 78 (false::C78)):=by kernel_rfl
theorem v1z:z05 P34 78 ([true,true,true]++C78)=some (cdF 78 ([true,true,true]++C78)):=by kernel_rfl
theorem v1y:z05 P34 78 (false::D78)=some (cdF 78 (false::D78)):=by kernel_rfl
theorem fn78:∃ fn,P34.funcs[78]?=some fn∧fn.body=some (cdF 78 [])∧fn.ntmps=24∧fn.results.toList=[]:=by
 have:(P34.funcs[78]?.map fun fn=>(fn.body,fn.ntmps,fn.results.toList))=some (some (cdF 78 []),24,[]):=by kernel_rfl
 cases hq:P34.funcs[78]? with
 |none=>rw [hq] at this; cases this
 |some fn=>
  rw [hq] at this
  simp only [Option.map_some,Option.some.injEq,Prod.mk.injEq] at this
  exact ⟨fn,rfl,this.1,this.2.1,this.2.2⟩
theorem w1p:z12 P34 78:=enters_auto (b:=_) rfl (by kernel_rfl)
def z7e (L:Nat) (N k:Int):List (Nat×AV):=[(0, .yld L),(8, .d (.int .i64 N)),(9, .d (.int .i64 k))]
def z8a (L:Nat) (N k i:Int):List (Nat×AV):=[(0, .yld L),(8, .d (.int .i64 N)),(9, .d (.int .i64 k)),(3, .d (.int .i64 k)),(12, .d (.int .i64 k)),(13, .d (.int .i64 i))]
theorem y0r {L:Nat} {N k:Int} {env:List (Nat×AV)} (h0:z0r env 0= .yld L) (h8:z0r env 8= .d (.int .i64 N)) (h9:z0r env 9= .d (.int .i64 k)):y2m (z7e L N k) env:=by
 refine z04 fun x hx=>?_
 simp only [z7e,List.mem_cons,List.not_mem_nil,or_false] at hx
 rcases hx with rfl|rfl|rfl
 ·exact h0
 ·exact h8
 ·exact h9
theorem y7j {L:Nat} {N k i:Int} {env:List (Nat×AV)} (h0:z0r env 0= .yld L) (h8:z0r env 8= .d (.int .i64 N)) (h9:z0r env 9= .d (.int .i64 k)) (h3:z0r env 3= .d (.int .i64 k)) (h12:z0r env 12= .d (.int .i64 k)) (h13:z0r env 13= .d (.int .i64 i)):y2m (z8a L N k i) env:=by
 refine z04 fun x hx=>?_
 simp only [z8a,List.mem_cons,List.not_mem_nil,or_false] at hx
 rcases hx with rfl|rfl|rfl|rfl|rfl|rfl
 ·exact h0
 ·exact h8
 ·exact h9
 ·exact h3
 ·exact h12
 ·exact h13
theorem v0o (m L:Nat) (N k:Int) (h:List AO):y3s m 78 (false::A78) (z7e L N k) h 24=some (.normal,⟨⟨z7e L N k++[(10, .d (.bool (std.cmp .lss k N)))],h,24⟩,[]⟩):=by kernel_rfl
theorem v0n (m L:Nat) (N k:Int) (h:List AO):y3s m 78 ([true,true,true]++A78) (z7e L N k) h 24=some (.normal,⟨⟨z7e L N (std.ar .add .i64 k 1)++[(23, .d (.int .i64 (std.ar .add .i64 k 1)))],h,24⟩,[]⟩):=by kernel_rfl
theorem v0m (m L:Nat) (N k:Int) (h:List AO):y3s m 78 (false::B78) (z7e L N k) h 24=some (.normal,⟨⟨z7e L N k++[(11, .d (.int .i64 k)),(3, .d (.int .i64 k))],h,24⟩,[]⟩):=by kernel_rfl
theorem v0l (m L:Nat) (N k:Int) (h:List AO):y3s m 78 ([false,true]++B78) (z7e L N k++[(3, .d (.int .i64 k))]) h 24=some (.normal,⟨⟨z8a L N k 0,h,24⟩,[]⟩):=by kernel_rfl
theorem v0k (m L:Nat) (N k i:Int) (h:List AO):y3s m 78 (false::C78) (z8a L N k i) h 24=some (.normal,⟨⟨z8a L N k i++[(14, .d (.bool (std.cmp .lss i k)))],h,24⟩,[]⟩):=by kernel_rfl
theorem v0j (m L:Nat) (N k i:Int) (h:List AO):y3s m 78 ([true,true,true]++C78) (z8a L N k i) h 24=some (.normal,⟨⟨z8a L N k (std.ar .add .i64 i 1)++[(22, .d (.int .i64 (std.ar .add .i64 i 1)))],h,24⟩,[]⟩):=by kernel_rfl
theorem v0i (m L:Nat) (N k i:Int) (h:List AO):y3s m 78 (false::D78) (z8a L N k i) h 24=some (.normal,⟨⟨z8a L N k i++[(15, .d (.int .i64 i)),(4, .d (.int .i64 i))],h,24⟩,[]⟩):=by kernel_rfl
def x8n (l:List Vt) (S:Int) (n i k:Nat):Bool:=decide (0≤y0h l S i k n)
def w3g (l:List Vt) (S:Int) (n:Nat) (g:Nat→Nat→Bool) (k:Nat):Nat→Nat→Nat→Bool
 |0=>g
 |i+1=>v30 (w3g l S n g k i) i k (x8n l S n i k)
def y4r (l:List Vt) (S:Int) (n:Nat):Nat→Nat→Nat→Bool
 |0=>fun _ _=>false
 |k+1=>w3g l S n (y4r l S n k) k k
structure x0o (h:List AO) (N S:Int) (V:List (List D)) (n:Nat) (f:Nat→JM×JM) (P F X L:Nat) (g:Nat→Nat→Bool):Prop where
 fam:w33 h N S V n f P F g
 lp:z0e h L= .loop .ready none 17 R17 69 (z7l P F X)
 lF:F<L
 lL:L<h.length
theorem w7m {env:List (Nat×AV)} {h:List AO} {new a c:Nat} {i k:Int} (ha:z0r env a= .d (.int .i64 i)) (hc:z0r env c= .d (.int .i64 k)):
  z0i std E34.T env h new false [] [] (.build 80 #[(0, .tmp a),(1, .tmp c)])=some ⟨true, .d (.agg [.int .i64 i, .int .i64 k]),[]⟩:=by
 have e:z0i std E34.T env h new false [] [] (.build 80 #[(0, .tmp a),(1, .tmp c)])=z0i std E34.T [(0, .d (.int .i64 i)),(1, .d (.int .i64 k))] h new false [] [] (.build 80 #[(0, .tmp 0),(1, .tmp 1)]):=by
  simp only [z0i]
  show (match E34.T 80 with|some ti=>z5v ti [(0,z0r env a),(1,z0r env c)]|none=>none)=_
  rw [ha,hc]; rfl
 exact e.trans (by kernel_rfl)
theorem w46 {m:Nat} {h:List AO} (hm:m≤h.length) {N S:Int} {l:List Vt} {n:Nat} (hv:∀ v∈l,¬ z6x N n v) (h0:0<n) (hn:n≤1000) {P F X L:Nat} {i k:Nat} (hik:i<k) (hk:k<10) {g:Nat→Nat→Bool}
  (hf:x0o h N S (z0k l) n (fun j=>z1g l (j:Int)) P F X L g)
  {Q:AS→Prop} (hQ:∀ h',h.length≤h'.length→x0o h' N S (z0k l) n (fun j=>z1g l (j:Int)) P F X L (v30 g i k (x8n l S n i k))→Q ⟨z8a L N (k:Int) (i:Int)++[(21, .d (.bool false))],h',24⟩):
  z4m P34 m (z2t 78 x9m) (List.range (z2t 78 x9m).size) ⟨z8a L N (k:Int) (i:Int)++[(15, .d (.int .i64 (i:Int))),(4, .d (.int .i64 (i:Int)))],h,24⟩ (fun s=>∃ s',z2b m s s'∧Q s'):=by
 have hr:List.range (z2t 78 x9m).size=[0,1,2,3,4,5]:=by kernel_rfl
 obtain ⟨w0,o0⟩:=z03 (g:=78) (p:=x9m) (i:=0) (dst:=some 16) (op:= .move (.tmp 0)) (by kernel_rfl)
 obtain ⟨w1,o1⟩:=z03 (g:=78) (p:=x9m) (i:=1) (dst:=some 17) (op:= .move (.tmp 4)) (by kernel_rfl)
 obtain ⟨w2,o2⟩:=z03 (g:=78) (p:=x9m) (i:=2) (dst:=some 18) (op:= .move (.tmp 3)) (by kernel_rfl)
 obtain ⟨w3,o3⟩:=z03 (g:=78) (p:=x9m) (i:=3) (dst:=some 19) (op:= .build 80 #[(0, .tmp 17),(1, .tmp 18)]) (by kernel_rfl)
 obtain ⟨w4,o4⟩:=z03 (g:=78) (p:=x9m) (i:=4) (dst:=some 20) (op:= .call ⟨.value (.tmp 16),#[.tmp 19],#[80]⟩) (by kernel_rfl)
 obtain ⟨w5,o5⟩:=z03 (g:=78) (p:=x9m) (i:=5) (dst:=some 21) (op:= .unOp .not 4 (.tmp 20)) (by kernel_rfl)
 rw [hr]
 refine osN o0 hm (q:=false) (r:=[]) (ra:=[]) (res:=⟨true, .yld L,[]⟩) trivial rfl rfl rfl ?_
 refine osN o1 hm (q:=false) (r:=[]) (ra:=[]) (res:=⟨true, .d (.int .i64 (i:Int)),[]⟩) trivial rfl rfl rfl ?_
 refine osN o2 hm (q:=false) (r:=[]) (ra:=[]) (res:=⟨true, .d (.int .i64 (k:Int)),[]⟩) trivial rfl rfl rfl ?_
 refine osN o3 hm (q:=false) (r:=[]) (ra:=[]) (res:=⟨true, .d (.agg [.int .i64 (i:Int), .int .i64 (k:Int)]),[]⟩) trivial (w7m rfl rfl) rfl rfl ?_
 obtain ⟨o41,o42,o43,o44⟩:=o4
 have hlL:=hf.lL
 have hlF:=hf.lF
 have hld:(z0o h L .dead).length=h.length:=z0q _ _ _ hlL
 have hfd:w33 (z0o h L .dead) N S (z0k l) n (fun j=>z1g l (j:Int)) P F g:=hf.fam.keep (by omega) fun j h1 h2=>z0a _ _ _ _ (by omega)
 refine y5u (g:=17) (pos:=R17) (env:=z7l P F X) (nt:=69) (pd:=none) o41 (by rw [o44]; rfl) hm o43 (id:=L) rfl hf.lp v9n (by intro p hp; rw [List.mem_singleton.1 hp]; decide) rfl (by rw [o42]; rfl) ?_
 refine w4w (m:=h.length) (h:=z0o h L .dead) (l:=l) (n:=n) (i:=i) (k:=k) (X:=X) (by omega) hv h0 hn hik hk hfd fun env h' hl' hf'=>?_
 refine ⟨by show h.length≤h'.length; omega,?_⟩
 have hl2:(z0o h' L (.loop .ready none 17 R17 69 (z7l P F X))).length=h'.length:=z0q _ _ _ (by omega)
 have hf2:x0o (z0o h' L (.loop .ready none 17 R17 69 (z7l P F X))) N S (z0k l) n (fun j=>z1g l (j:Int)) P F X L (v30 g i k (x8n l S n i k)):=
  ⟨hf'.keep (by omega) fun j h1 h2=>z0a _ _ _ _ (by omega),z0b _ _ _,hlF,by omega⟩
 rw [o42]
 show z4m P34 m _ [5] ⟨_,z0o h' L (.loop .ready none 17 R17 69 (z7l P F X)),24⟩ _
 generalize z0o h' L (.loop .ready none 17 R17 69 (z7l P F X))=h2 at hl2 hf2⊢
 refine osN o5 (by show m≤h2.length; omega) (q:=false) (r:=[]) (ra:=[]) (res:=⟨true, .d (.bool false),[]⟩) trivial (by kernel_rfl) rfl rfl ?_
 refine z1t ⟨_,z2b.env (n:=m) (s:=⟨_,h2,24⟩) (z04 fun x hx=>?_),hQ h2 (by omega) hf2⟩
 simp only [z8a,List.cons_append,List.nil_append,List.mem_cons,List.not_mem_nil,or_false] at hx
 rcases hx with rfl|rfl|rfl|rfl|rfl|rfl|rfl<;>rfl
end Go.Am
end
section
namespace Go.Am
theorem w59 {m:Nat} {h:List AO} (hm:m≤h.length) {N S:Int} {l:List Vt} {n:Nat} (hv:∀ v∈l,¬ z6x N n v) (h0:0<n) (hn:n≤1000) {P F X L:Nat} {k:Nat} (hk:k<10) {g:Nat→Nat→Bool}
  (hf:x0o h N S (z0k l) n (fun j=>z1g l (j:Int)) P F X L g)
  {Q:AX→AS→Prop} (hQ:∀ h',h.length≤h'.length→x0o h' N S (z0k l) n (fun j=>z1g l (j:Int)) P F X L (w3g l S n g k k)→Q (.exit 2) ⟨z7e L N (k:Int),h',24⟩):
  z2s P34 m (.loop (cdF 78 C78)) ⟨z8a L N (k:Int) ((0:Nat):Int),h,24⟩ Q:=by
 let ι:={ x:Nat×List AO // x.1≤k∧h.length≤x.2.length∧x0o x.2 N S (z0k l) n (fun j=>z1g l (j:Int)) P F X L (w3g l S n g k x.1) }
 let I:ι→AS:=fun q=>⟨z8a L N (k:Int) (q.1.1:Nat),q.1.2,24⟩
 refine z7n (ι:=ι) I (fun q=>k - q.1.1) (fun _ _=>rfl) ?_ ⟨(0,h),Nat.zero_le _,Nat.le_refl _,hf⟩
 rintro ⟨⟨i,h1⟩,hi,hl1,hf1⟩
 have hl1:h.length≤h1.length:=hl1
 have hf1:x0o h1 N S (z0k l) n (fun j=>z1g l (j:Int)) P F X L (w3g l S n g k i):=hf1
 rw [sC78]
 refine z0h ?_
 refine (rgN v10 (by show m≤h1.length; omega) (v0k m L N (k:Int) (i:Int) h1)).mono ?_
 rintro e s ⟨rfl,rfl⟩
 refine z0h ?_
 by_cases hlt:i<k
 ·have hc:std.cmp .lss (i:Int) (k:Int)=true:=by rw [z4d]; exact decide_eq_true (by omega)
  refine z1v (t:=true) (by show AV.d (.bool (std.cmp .lss (i:Int) (k:Int)))=_; rw [hc]) ?_
  rw [if_pos rfl]
  refine z4j ?_
  refine z06 (s':=⟨z8a L N (k:Int) (i:Int),h1,24⟩) (z2b.env (n:=m) (s:=⟨_,h1,24⟩) (y7j rfl rfl rfl rfl rfl rfl)) ?_
  refine z0h (z1f (z0h ((rgN v1y (by show m≤h1.length; omega) (v0i m L N (k:Int) (i:Int) h1)).mono ?_)))
  rintro e s ⟨rfl,rfl⟩
  refine z0h (z0t (z0z (w46 (by omega) hv h0 hn hlt hk hf1 (Q:=fun s'=>z2s P34 m (.cond (.tmp 21) .ret .skip) s' _) fun h2 hl2 hf2=>?_)))
  refine z1v (t:=false) rfl ?_
  rw [if_neg (by simp)]
  refine z4j ?_
  show z2s P34 m (cdF 78 ([true,true,true]++C78)) ⟨z8a L N (k:Int) (i:Int)++[(21, .d (.bool false))],h2,24⟩ _
  refine z06 (s':=⟨z8a L N (k:Int) (i:Int),h2,24⟩) (z2b.env (n:=m) (s:=⟨_,h2,24⟩) (y7j rfl rfl rfl rfl rfl rfl)) ?_
  refine z0t ((rgN v1z (by show m≤h2.length; omega) (v0j m L N (k:Int) (i:Int) h2)).mono ?_)
  rintro e s ⟨rfl,rfl⟩
  rw [w74 (i:=i) (by omega)]
  exact ⟨⟨z8a L N (k:Int) ((i+1:Nat):Int),h2,24⟩,z2b.env (n:=m) (s:=⟨_,h2,24⟩) (y7j rfl rfl rfl rfl rfl rfl),⟨⟨(i+1,h2),hlt,by show h.length≤h2.length; omega,hf2⟩,rfl,by show k - (i+1)<k - i; omega⟩⟩
 ·have hik:i=k:=by have:i≤k:=hi; omega
  subst hik
  have hc:std.cmp .lss (i:Int) (i:Int)=false:=by rw [z4d]; exact decide_eq_false (by omega)
  refine z1v (t:=false) (by show AV.d (.bool (std.cmp .lss (i:Int) (i:Int)))=_; rw [hc]) ?_
  rw [if_neg (by simp)]
  refine z06 (s':=⟨z7e L N (i:Int),h1,24⟩) (z2b.env (n:=m) (s:=⟨_,h1,24⟩) (y0r rfl rfl rfl)) ?_
  exact z56 (hQ h1 hl1 hf1)
theorem w5c {m:Nat} {h:List AO} (hm:m≤h.length) {N:Nat} (hN:N≤10) {S:Int} {l:List Vt} {n:Nat} (hv:∀ v∈l,¬ z6x N n v) (h0:0<n) (hn:n≤1000) {P F X L:Nat}
  (hf:x0o h N S (z0k l) n (fun j=>z1g l (j:Int)) P F X L (y4r l S n 0))
  {Q:AX→AS→Prop} (hQ:∀ h',h.length≤h'.length→x0o h' N S (z0k l) n (fun j=>z1g l (j:Int)) P F X L (y4r l S n N)→Q (.exit 0) ⟨z7e L N (N:Int),h',24⟩):
  z2s P34 m (.loop (cdF 78 A78)) ⟨z7e L N ((0:Nat):Int),h,24⟩ Q:=by
 let ι:={ x:Nat×List AO // x.1≤N∧h.length≤x.2.length∧x0o x.2 N S (z0k l) n (fun j=>z1g l (j:Int)) P F X L (y4r l S n x.1) }
 let I:ι→AS:=fun q=>⟨z7e L N (q.1.1:Nat),q.1.2,24⟩
 refine z7n (ι:=ι) I (fun q=>N - q.1.1) (fun _ _=>rfl) ?_ ⟨(0,h),Nat.zero_le _,Nat.le_refl _,hf⟩
 rintro ⟨⟨k,h1⟩,hkN,hl1,hf1⟩
 have hl1:h.length≤h1.length:=hl1
 have hf1:x0o h1 N S (z0k l) n (fun j=>z1g l (j:Int)) P F X L (y4r l S n k):=hf1
 rw [sA78]
 refine z0h ?_
 refine (rgN v14 (by show m≤h1.length; omega) (v0o m L N (k:Int) h1)).mono ?_
 rintro e s ⟨rfl,rfl⟩
 refine z0h ?_
 by_cases hlt:k<N
 ·have hc:std.cmp .lss (k:Int) (N:Int)=true:=by rw [z4d]; exact decide_eq_true (by omega)
  refine z1v (t:=true) (by show AV.d (.bool (std.cmp .lss (k:Int) (N:Int)))=_; rw [hc]) ?_
  rw [if_pos rfl]
  refine z4j ?_
  refine z06 (s':=⟨z7e L N (k:Int),h1,24⟩) (z2b.env (n:=m) (s:=⟨_,h1,24⟩) (y0r rfl rfl rfl)) ?_
  refine z0h (z1f (z0h ((rgN v12 (by show m≤h1.length; omega) (v0m m L N (k:Int) h1)).mono ?_)))
  rintro e s ⟨rfl,rfl⟩
  refine z06 (s':=⟨z7e L N (k:Int)++[(3, .d (.int .i64 (k:Int)))],h1,24⟩) (z2b.env (n:=m) (s:=⟨_,h1,24⟩) (z04 fun x hx=>by
   simp only [z7e,List.cons_append,List.nil_append,List.mem_cons,List.not_mem_nil,or_false] at hx
   rcases hx with rfl|rfl|rfl|rfl<;>rfl)) ?_
  refine z0h ((rgN v11 (by show m≤h1.length; omega) (v0l m L N (k:Int) h1)).mono ?_)
  rintro e s ⟨rfl,rfl⟩
  refine z1f ?_
  refine w59 (m:=m) (by omega) hv h0 hn (k:=k) (by omega) hf1 fun h2 hl2 hf2=>?_
  simp only [if_true]
  refine z0t ((rgN v13 (by show m≤h2.length; omega) (v0n m L N (k:Int) h2)).mono ?_)
  rintro e s ⟨rfl,rfl⟩
  rw [w74 (i:=k) (by omega)]
  exact ⟨⟨z7e L N ((k+1:Nat):Int),h2,24⟩,z2b.env (n:=m) (s:=⟨_,h2,24⟩) (y0r rfl rfl rfl),⟨⟨(k+1,h2),hlt,by show h.length≤h2.length; omega,hf2⟩,rfl,by show N - (k+1)<N - k; omega⟩⟩
 ·have hik:k=N:=by have:k≤N:=hkN; omega
  subst hik
  have hc:std.cmp .lss (k:Int) (k:Int)=false:=by rw [z4d]; exact decide_eq_false (by omega)
  refine z1v (t:=false) (by show AV.d (.bool (std.cmp .lss (k:Int) (k:Int)))=_; rw [hc]) ?_
  rw [if_neg (by simp)]
  refine z06 (s':=⟨z7e L k (k:Int),h1,24⟩) (z2b.env (n:=m) (s:=⟨_,h1,24⟩) (y0r rfl rfl rfl)) ?_
  exact z56 (hQ h1 hl1 hf1)
theorem ld85 {env:List (Nat×AV)} {h:List AO} {new a X F:Nat} (ha:z0r env a= .bptr X 0) (hh:z0e h X= .box [.bptr F 0]):
  z0i std E34.T env h new false [] [] (.load 85 (.tmp a))=some ⟨true, .bptr F 0,[]⟩:=by
 cases ht:E34.T 85 with
 |none=>have:=v3c; rw [ht] at this; cases this
 |some ti=>
  have h1:=v3c
  rw [ht] at h1
  simp only [Option.map_some,Option.some.injEq,Prod.mk.injEq] at h1
  simp only [z0i,z0n,ha,ht,z5f,z1k,hh,h1.1,h1.2.1]
  rfl
theorem w35 {env:List (Nat×AV)} {h:List AO} {t:TypeId} {a F off:Nat} {es:List (List D)} {y:D} (ha:z0r env a= .bptr F off) (hh:z0e h F= .row es) (he:es[off]?=some [y]):(z08 std E34.T env h (.load t (.tmp a))).ok false [y] []:=by
 simp only [z08,z0n,ha,z5f,z21,hh,y23.ok]
 intro j x hx
 match j,hx with
 |0,hx=>cases hx; exact ⟨[y],he,z68 _⟩
 |j+1,hx=>simp at hx
theorem ldR3 {env:List (Nat×AV)} {h:List AO} {new a F off:Nat} {es:List (List D)} {y:Int} (ha:z0r env a= .bptr F off) (hh:z0e h F= .row es):
  z0i std E34.T env h new false [.int .i64 y] [] (.load 3 (.tmp a))=some ⟨true, .d (.int .i64 y),[]⟩:=by
 cases ht:E34.T 3 with
 |none=>have:=ty3; rw [ht] at this; cases this
 |some ti=>
  have h1:=ty3
  rw [ht] at h1
  simp only [Option.map_some,Option.some.injEq,Prod.mk.injEq] at h1
  simp only [z0i,z0n,ha,ht,z5f,z1k,hh,h1.1,h1.2.1]
  rfl
theorem v1v {s0:AS} {m:Nat} (hm:m≤s0.heap.length) {N:Nat} (hN:N≤10) {S:Int} {l:List Vt} {n:Nat} (hv:∀ v∈l,¬ z6x N n v) (h0:0<n) (hn:n≤1000) {P F X L:Nat} (hX:z0e s0.heap X= .box [.bptr F 0])
  (hf:x0o s0.heap N S (z0k l) n (fun j=>z1g l (j:Int)) P F X L (y4r l S n 0)):
  w2x P34 m 78 [.yld L, .bptr X 0] s0 fun r sc=>sc.env=s0.env∧sc.nt=s0.nt∧s0.heap.length≤sc.heap.length∧x0o sc.heap N S (z0k l) n (fun j=>z1g l (j:Int)) P F X L (y4r l S n N):=by
 obtain ⟨fn,hfn,hb,hnt,hres⟩:=fn78
 refine y72 x24 hm hfn hb hnt (by show 2≤24; omega) ?_
 obtain ⟨env,h,nt⟩:=s0
 rw [hres,s78]
 have hX:z0e h X= .box [.bptr F 0]:=hX
 have hf:x0o h N S (z0k l) n (fun j=>z1g l (j:Int)) P F X L (y4r l S n 0):=hf
 have r0:List.range (z2t 78 [false]).size=[0,1,2,3,4]:=by kernel_rfl
 obtain ⟨w0,o0⟩:=z03 (g:=78) (p:=[false]) (i:=0) (dst:=some 5) (op:= .load 85 (.tmp 1)) (by kernel_rfl)
 obtain ⟨w1,o1⟩:=z03 (g:=78) (p:=[false]) (i:=1) (dst:=some 6) (op:= .nilCheck (.tmp 5)) (by kernel_rfl)
 obtain ⟨w2,o2⟩:=z03 (g:=78) (p:=[false]) (i:=2) (dst:=some 7) (op:= .fieldAddr 75 (.tmp 6) 0) (by kernel_rfl)
 obtain ⟨w3,o3⟩:=z03 (g:=78) (p:=[false]) (i:=3) (dst:=some 8) (op:= .load 3 (.tmp 7)) (by kernel_rfl)
 obtain ⟨w4,o4⟩:=z03 (g:=78) (p:=[false]) (i:=4) (dst:=some 9) (op:= .move (.const (.int .i64 0))) (by kernel_rfl)
 have hF:=hf.fam.hF
 have hF0:(fld (N:Int) (y4r l S n 0))[0]?=some [.int .i64 (N:Int)]:=rfl
 refine z0h (z0z ?_)
 rw [r0]
 refine osN o0 (Nat.le_refl _) (q:=false) (r:=[]) (ra:=[]) (res:=⟨true, .bptr F 0,[]⟩) (z2p rfl hX) (ld85 rfl hX) rfl rfl ?_
 refine osN o1 (Nat.le_refl _) (q:=false) (r:=[]) (ra:=[]) (res:=⟨true, .bptr F 0,[]⟩) trivial rfl rfl rfl ?_
 refine osN o2 (Nat.le_refl _) (q:=false) (r:=[]) (ra:=[]) (res:=⟨true, .bptr F 0,[]⟩) trivial (by
  show z0i std E34.T [(0, .yld L),(1, .bptr X 0),(5, .bptr F 0),(6, .bptr F 0)] h h.length false [] [] (.fieldAddr 75 (.tmp 6) 0)=_
  kernel_rfl) rfl rfl ?_
 refine osN o3 (Nat.le_refl _) (q:=false) (r:=[.int .i64 (N:Int)]) (ra:=[]) (res:=⟨true, .d (.int .i64 (N:Int)),[]⟩) (w35 rfl hF hF0) (ldR3 rfl hF) rfl rfl ?_
 refine osN o4 (Nat.le_refl _) (q:=false) (r:=[]) (ra:=[]) (res:=⟨true, .d (.int .i64 0),[]⟩) trivial rfl rfl rfl ?_
 refine z1t ?_
 show z2s P34 h.length (.block 0 (.loop (cdF 78 A78))) ⟨_,h,24⟩ _
 refine z06 (s':=⟨z7e L N ((0:Nat):Int),h,24⟩) (z2b.env (n:=h.length) (s:=⟨_,h,24⟩) (y0r rfl rfl rfl)) ?_
 refine z1f ?_
 refine w5c (Nat.le_refl _) hN hv h0 hn hf fun h' hl' hf'=>?_
 simp only [if_true]
 exact ⟨.inl trivial, .tuple [],rfl,trivial,trivial,hl',hf'⟩
end Go.Am
end
section
namespace Go.Am
theorem w6g (l:List Vt) (S:Int) (n:Nat) (g:Nat→Nat→Bool) (k i a b:Nat):w3g l S n g k i a b=true↔g a b=true∨(a<i∧b=k∧x8n l S n a k=true)∨(a=k∧b<i∧x8n l S n b k=false):=by
 induction i with
 |zero=>
  show g a b=true↔_
  constructor
  ·intro h; exact .inl h
  ·rintro (h|⟨h,_⟩|⟨_,h,_⟩)
   ·exact h
   ·exact absurd h (Nat.not_lt_zero _)
   ·exact absurd h (Nat.not_lt_zero _)
 |succ i ih=>
  show (w3g l S n g k i a b||(bif x8n l S n i k then decide (a=i)&&decide (b=k) else decide (a=k)&&decide (b=i)))=true↔_
  rw [Bool.or_eq_true,ih]
  cases hd:x8n l S n i k with
  |true=>
   simp only [cond_true,Bool.and_eq_true,decide_eq_true_eq]
   constructor
   ·rintro ((h|⟨h1,h2,h3⟩|⟨h1,h2,h3⟩)|⟨rfl,rfl⟩)
    ·exact .inl h
    ·exact .inr (.inl ⟨by omega,h2,h3⟩)
    ·exact .inr (.inr ⟨h1,by omega,h3⟩)
    ·exact .inr (.inl ⟨Nat.lt_succ_self _,rfl,hd⟩)
   ·rintro (h|⟨h1,h2,h3⟩|⟨h1,h2,h3⟩)
    ·exact .inl (.inl h)
    ·by_cases e:a=i
     ·exact .inr ⟨e,h2⟩
     ·exact .inl (.inr (.inl ⟨by omega,h2,h3⟩))
    ·by_cases e:b=i
     ·subst e; rw [hd] at h3; cases h3
     ·exact .inl (.inr (.inr ⟨h1,by omega,h3⟩))
  |false=>
   simp only [cond_false,Bool.and_eq_true,decide_eq_true_eq]
   constructor
   ·rintro ((h|⟨h1,h2,h3⟩|⟨h1,h2,h3⟩)|⟨rfl,rfl⟩)
    ·exact .inl h
    ·exact .inr (.inl ⟨by omega,h2,h3⟩)
    ·exact .inr (.inr ⟨h1,by omega,h3⟩)
    ·exact .inr (.inr ⟨rfl,Nat.lt_succ_self _,hd⟩)
   ·rintro (h|⟨h1,h2,h3⟩|⟨h1,h2,h3⟩)
    ·exact .inl (.inl h)
    ·by_cases e:a=i
     ·subst e; rw [hd] at h3; cases h3
     ·exact .inl (.inr (.inl ⟨by omega,h2,h3⟩))
    ·by_cases e:b=i
     ·exact .inr ⟨h1,e⟩
     ·exact .inl (.inr (.inr ⟨h1,by omega,h3⟩))
theorem x7s (l:List Vt) (S:Int) (n N a b:Nat):y4r l S n N a b=true↔(a<b∧b<N∧x8n l S n a b=true)∨(b<a∧a<N∧x8n l S n b a=false):=by
 induction N with
 |zero=>
  constructor
  ·intro h; cases h
  ·rintro (⟨_,h,_⟩|⟨_,h,_⟩)<;>exact absurd h (Nat.not_lt_zero _)
 |succ k ih=>
  show w3g l S n (y4r l S n k) k k a b=true↔_
  rw [w6g,ih]
  constructor
  ·rintro ((⟨h1,h2,h3⟩|⟨h1,h2,h3⟩)|⟨h1,rfl,h3⟩|⟨rfl,h2,h3⟩)
   ·exact .inl ⟨h1,by omega,h3⟩
   ·exact .inr ⟨h1,by omega,h3⟩
   ·exact .inl ⟨h1,by omega,h3⟩
   ·exact .inr ⟨h2,by omega,h3⟩
  ·rintro (⟨h1,h2,h3⟩|⟨h1,h2,h3⟩)
   ·by_cases e:b=k
    ·subst e; exact .inr (.inl ⟨h1,rfl,h3⟩)
    ·exact .inl (.inl ⟨h1,by omega,h3⟩)
   ·by_cases e:a=k
    ·subst e; exact .inr (.inr ⟨rfl,h1,h3⟩)
    ·exact .inl (.inr ⟨h1,by omega,h3⟩)
theorem w1h (l:List Vt) (S:Int) (n N i k:Nat) (h:N≤k):y4r l S n N i k=false:=by
 cases hb:y4r l S n N i k with
 |false=>rfl
 |true=>
  rcases (x7s l S n N i k).1 hb with ⟨_,h2,_⟩|⟨h1,h2,_⟩<;>omega
theorem w6h {l:List Vt} {N J:Int} (hv:∀ v∈l,¬ z6x N J v) {M:Nat} (hN:N=M) (S:Int) (n:Nat) {a b:Nat} (ha:a<M) (hb:b<M):y4r l S n M a b=beK l M n S a b:=by
 rw [Bool.eq_iff_iff,x7s]
 rcases Nat.lt_trichotomy a b with h|h|h
 ·obtain ⟨h1,h2⟩:=y5e hv hN S (m:=n) h
  rw [←h1]
  unfold x8n
  rw [decide_eq_true_eq]
  constructor
  ·rintro (⟨_,_,h3⟩|⟨h3,_⟩)
   ·exact h3
   ·omega
  ·intro h3; exact .inl ⟨h,hb,h3⟩
 ·subst h
  have e:beK l M n S a a=false:=by unfold beK; simp
  rw [e]
  constructor
  ·rintro (⟨h,_⟩|⟨h,_⟩)<;>omega
  ·intro h; cases h
 ·obtain ⟨h1,h2⟩:=y5e hv hN S (m:=n) h
  rw [h2]
  unfold x8n
  constructor
  ·rintro (⟨h3,_⟩|⟨_,_,h3⟩)
   ·omega
   ·rw [decide_eq_false_iff_not] at h3
    cases hq:beK l M n S b a with
    |false=>rfl
    |true=>exact absurd (h1.2 hq) h3
  ·intro h3
   refine .inr ⟨h,ha,decide_eq_false fun h4=>?_⟩
   rw [h1.1 h4] at h3; cases h3
theorem w1i {l:List Vt} {N J:Int} (hv:∀ v∈l,¬ z6x N J v) {M:Nat} (hN:N=M) (S:Int) (n:Nat):dOf (y4r l S n M) M=dOf (beK l M n S) M:=by
 unfold dOf
 refine List.map_congr_left fun i hi=>?_
 congr 1
 refine List.filter_congr fun k hk=>?_
 exact w6h hv hN S n (List.mem_range.1 hi) (List.mem_range.1 hk)
theorem v1x {n:Nat} {env:List (Nat×AV)} {h:List AO} {nt F:Nat} {N:Nat} (hN:N≤10) {g:Nat→Nat→Bool} (hsup:∀ i k,N≤k→g i k=false) (hn:n≤h.length) (hF:z0e h F= .row (fld N g)) (hl:F<h.length):
  z38 P34 n 49 [.bptr F 0] ⟨env,h,nt⟩ (.d (.list false 1 (z2a fe (dOf g N)))) ⟨env,z0o h F (.row (fld N g)),nt⟩:=by
 obtain ⟨hle,har⟩:=v9v.2 (fld N g,()) _ (v23 g N hN hsup)
 have hth:z44 h.length [some F]=true:=by
  simp only [z44,Bool.and_true]
  exact Nat.ble_eq_true_of_le hl
 have:=z9b (P:=P34) (n:=n) (s:=⟨env,h,nt⟩) (σ:=[some F]) hn (by rfl) hth (g:=49) (args:=[.bptr F 0]) hle (fun ρ w hr=>?_) har
 ·exact this
 ·refine ⟨⟨.inr (.inl ⟨_,rfl, .inl hF⟩),trivial⟩,rfl,fun f hf i y hy=>?_⟩
  match i,hy with
  |0,hy=>
   cases hy
   have h0:=hf 0 _ rfl
   generalize f 0=v at h0⊢
   cases h0 with
   |bptr _ _ L hL=>exact .bptr 0 0 L hL
  |i+1,hy=>
   have hy:([AV.bptr 0 0])[i+1]?=some y:=hy
   simp at hy
def x4g:List Bool:=[false,true,true,true,true,true]
theorem s17:cdF 17 []= .seq (cdF 17 [false]) (.seq (.region 1 (z2t 17 x5n) false) (.seq (cdF 17 [false,true,true]) (.seq (.region 4 (z2t 17 x5m) false) (.seq (.seq (.region 5 (z2t 17 w8b) false) (.block 0 (.rangeFunc (.tmp 25) #[26] (.region 6 (z2t 17 (false::R17)) false) (.block 1 (cdF 17 X17))))) (.seq (.region 17 (z2t 17 x4g) false) .ret))))):=by kernel_rfl
theorem v2f:z05 P34 17 [false]=some (cdF 17 [false]):=by kernel_rfl
theorem v15:z05 P34 17 [false,true,true]=some (cdF 17 [false,true,true]):=by kernel_rfl
theorem v0z (N J S:Int) (V:List (List D)):w4v 17 [false] [(0,y1p N J S V)] [] 69=some (.normal,⟨⟨[(0,y1p N J S V),(1, .bptr 0 0),(2, .d (.list true 0 [])),(3, .d (.int .i64 0))],[.box (bkC N J S V)],69⟩,[]⟩):=by kernel_rfl
theorem v0p (x:AV) (e:Int) (h:List AO):w4v 17 [false,true,true] [(1, .bptr 0 0),(2, .d (.list true 0 [])),(3, .d (.int .i64 0)),(4,x),(5, .d (.int .i64 e))] h 69=opt.ask _ (std.cmp .neq e 0)
  (some (.ret,⟨⟨[(1, .bptr 0 0),(2, .d (.list true 0 [])),(3, .d (.int .i64 e)),(4,x),(5, .d (.int .i64 e)),(16, .d (.int .i64 e)),(17, .d (.bool true)),(18, .d (.int .i64 e))],h,69⟩,[]⟩))
  (some (.normal,⟨⟨[(1, .bptr 0 0),(2, .d (.list true 0 [])),(3, .d (.int .i64 0)),(4,x),(5, .d (.int .i64 e)),(16, .d (.int .i64 e)),(17, .d (.bool false))],h,69⟩,[]⟩)):=by kernel_rfl
theorem u0g:∃ fn,P34.funcs[17]?=some fn∧fn.body=some (cdF 17 [])∧fn.ntmps=69∧fn.results.toList=[.tmp 2, .tmp 3]:=by
 have:(P34.funcs[17]?.map fun fn=>(fn.body,fn.ntmps,fn.results.toList))=some (some (cdF 17 []),69,[.tmp 2, .tmp 3]):=by kernel_rfl
 cases hq:P34.funcs[17]? with
 |none=>rw [hq] at this; cases this
 |some fn=>
  rw [hq] at this
  simp only [Option.map_some,Option.some.injEq,Prod.mk.injEq] at this
  exact ⟨fn,rfl,this.1,this.2.1,this.2.2⟩
theorem x8h:z12 P34 49:=enters_auto (b:=_) rfl (by kernel_rfl)
theorem x5c {N J S e:Int} {V:List (List D)} (h19:G19 std (N,(J,(S,(V,()))))=some (e,())) (he:e≠0):z6e P34 17 [y1p N J S V] [] (.tuple [.d (.list true 0 []), .d (.int .i64 e)]) []:=by
 obtain ⟨fn,hf,hb,hnt,hres⟩:=u0g
 refine z20 x24 hf hb hnt (by show 1≤69; omega) ?_
 rw [hres,s17]
 refine z0h ((rgF v2f (v0z N J S V)).mono ?_)
 rintro e1 s1 ⟨rfl,rfl⟩
 refine z0h (z0t (z0z (x6v (y6n h19 he) ⟨rfl,rfl⟩ (Q:=fun s'=>z2s P34 0 (.seq (cdF 17 [false,true,true]) _) s' _) ?_)))
 have hc:std.cmp .neq e 0=true:=by rw [x00,decide_eq_false he]; rfl
 refine z0h (z0t ((rgF v15 ((v0p _ e _).trans (by rw [hc]; rfl))).mono ?_))
 rintro e1 s1 ⟨rfl,rfl⟩
 refine ⟨_,z2b.view (n:=0) (s:=⟨_,_,69⟩) (fun _=>false) (fun id hid=>absurd hid (Nat.not_lt_zero _)) (z9a _), .inr rfl,?_,rfl⟩
 rfl
theorem v2w {S:Int} {N n:Nat} (hN:N≤10) {l:List Vt} (h19:G19 std ((N:Int),((n:Int),(S,(z0k l,()))))=some (0,())) (h0:0<n) (hn:n≤1000) (hl:l.length≤1000) (hj:∀ v∈l,0≤v.1∧v.1<(n:Int)) (hv:∀ v∈l,¬ z6x N n v):
  z6e P34 17 [y1p N n S (z0k l)] [] (.tuple [.d (.list false 1 (z2a fe (dOf (y4r l S n N) N))), .d (.int .i64 0)]) []:=by
 obtain ⟨fn,hf,hb,hnt,hres⟩:=u0g
 refine z20 x24 hf hb hnt (by show 1≤69; omega) ?_
 rw [hres,s17]
 refine z0h ((rgF v2f (v0z N n S (z0k l))).mono ?_)
 rintro e1 s1 ⟨rfl,rfl⟩
 refine z0h (z0t (z0z (x6v (w3x h19 hn hl hj) ⟨rfl,rfl⟩ (Q:=fun s'=>z2s P34 0 (.seq (cdF 17 [false,true,true]) _) s' _) ?_)))
 have hfam:=x29 [.box (bkC N n S (z0k l))] N n S (z0k l) n (fun i=>z1g l (i:Int))
 have e1:([AO.box (bkC N n S (z0k l))]:List AO).length=1:=rfl
 rw [e1] at hfam
 have er:z46 (z1a [] 1) (.bptr 1 0)= .bptr 2 0:=rfl
 rw [er]
 generalize z1e (z1a [] 1) [.box (bkC N n S (z0k l))] 0 (x46 N n S (z0k l) n (fun i=>z1g l (i:Int)))=H at hfam⊢
 have hlen:=hfam.len
 have l1:(z0o (z0o H H.length (.box [.d .nilp])) H.length (.box [.bptr 2 0])).length=H.length+1:=by rw [z0q _ _ _ (by rw [z09]; omega),z09]
 have k1:∀ j,j<H.length→z0e (z0o (z0o H H.length (.box [.d .nilp])) H.length (.box [.bptr 2 0])) j=z0e H j:=fun j hj=>by rw [z0a _ _ _ _ (by omega),z0a _ _ _ _ (by omega)]
 have m1:z0e (z0o (z0o H H.length (.box [.d .nilp])) H.length (.box [.bptr 2 0])) H.length= .box [.bptr 2 0]:=z0b _ _ _
 generalize z0o (z0o H H.length (.box [.d .nilp])) H.length (.box [.bptr 2 0])=H1 at l1 k1 m1⊢
 have hfam1:=hfam.keep (h':=H1) (by omega) (fun j _ hj=>k1 j (by omega))
 refine z0h ((rgF v15 (v0p (.bptr H.length 0) 0 H1)).mono ?_)
 rintro e1 s1 ⟨rfl,rfl⟩
 refine z06 (s':=⟨[(4, .bptr H.length 0)],H1,69⟩) (z2b.env (n:=0) (s:=⟨_,H1,69⟩) (z04 fun x hx=>by
  simp only [List.mem_cons,List.not_mem_nil,or_false] at hx
  rcases hx with rfl; rfl)) ?_
 refine z0h (z0t (z0z (w49 m1 hfam1.b1 (Q:=fun s'=>z2s P34 0 (.seq (.seq (.region 5 (z2t 17 w8b) false) _) _) s' _) ?_)))
 have l2:(z0o (z0o H1 H1.length (.row (std.rep 101 [.int .i64 0]))) H1.length (.row (fld N (fun _ _=>false)))).length=H1.length+1:=by rw [z0q _ _ _ (by rw [z09]; omega),z09]
 have k2:∀ j,j<H1.length→z0e (z0o (z0o H1 H1.length (.row (std.rep 101 [.int .i64 0]))) H1.length (.row (fld N (fun _ _=>false)))) j=z0e H1 j:=fun j hj=>by rw [z0a _ _ _ _ (by omega),z0a _ _ _ _ (by omega)]
 have m2:z0e (z0o (z0o H1 H1.length (.row (std.rep 101 [.int .i64 0]))) H1.length (.row (fld N (fun _ _=>false)))) H1.length= .row (fld N (fun _ _=>false)):=z0b _ _ _
 generalize z0o (z0o H1 H1.length (.row (std.rep 101 [.int .i64 0]))) H1.length (.row (fld N (fun _ _=>false)))=H2 at l2 k2 m2⊢
 have hfam2:=hfam1.keep (h':=H2) (by omega) (fun j _ hj=>k2 j (by omega))
 refine z0h (z0h (z0z (w47 ?_)))
 have l3:(z0o H2 H2.length (.box [.bptr H1.length 0])).length=H2.length+1:=z09 _ _
 have k3:∀ j,j<H2.length→z0e (z0o H2 H2.length (.box [.bptr H1.length 0])) j=z0e H2 j:=fun j hj=>z0a _ _ _ _ (by omega)
 have m3:z0e (z0o H2 H2.length (.box [.bptr H1.length 0])) H2.length= .box [.bptr H1.length 0]:=z0b _ _ _
 generalize z0o H2 H2.length (.box [.bptr H1.length 0])=H3 at l3 k3 m3⊢
 have hfam3:=hfam2.keep (h':=H3) (by omega) (fun j _ hj=>k3 j (by omega))
 show z2s P34 0 (.block 0 (.rangeFunc (.tmp 25) #[26] _ _)) ⟨z7l H.length H1.length H2.length,H3,69⟩ _
 refine z1f ?_
 have l4:(z0o H3 H3.length (.loop .ready none 17 R17 69 (z7l H.length H1.length H2.length))).length=H3.length+1:=z09 _ _
 have k4:∀ j,j<H3.length→z0e (z0o H3 H3.length (.loop .ready none 17 R17 69 (z7l H.length H1.length H2.length))) j=z0e H3 j:=fun j hj=>z0a _ _ _ _ (by omega)
 have m4:z0e (z0o H3 H3.length (.loop .ready none 17 R17 69 (z7l H.length H1.length H2.length))) H3.length= .loop .ready none 17 R17 69 (z7l H.length H1.length H2.length):=z0b _ _ _
 refine y4h (g:=78) (first:=[]) (captured:=[.bptr H2.length 0]) v9n rfl w1p (Nat.zero_le _) ?_
 show w2x P34 (H3.length+1) 78 [.yld H3.length, .bptr H2.length 0] ⟨z7l H.length H1.length H2.length,z0o H3 H3.length (.loop .ready none 17 R17 69 (z7l H.length H1.length H2.length)),69⟩ _
 generalize z0o H3 H3.length (.loop .ready none 17 R17 69 (z7l H.length H1.length H2.length))=H4 at l4 k4 m4⊢
 have hfam4:=hfam3.keep (h':=H4) (by omega) (fun j _ hj=>k4 j (by omega))
 have hL:x0o H4 N S (z0k l) n (fun j=>z1g l (j:Int)) H.length H1.length H2.length H3.length (y4r l S n 0):=
  ⟨⟨hfam4,by rw [k4 _ (by omega),k3 _ (by omega),k2 _ (by omega)]; exact m1,by rw [k4 _ (by omega),k3 _ (by omega)]; exact m2,hlen,by omega,by omega⟩,m4,by omega,by omega⟩
 have hcall:=v1v (s0:=⟨z7l H.length H1.length H2.length,H4,69⟩) (m:=H3.length+1) (by show H3.length+1≤H4.length; omega) hN hv h0 hn (X:=H2.length) (F:=H1.length) (by show z0e H4 _=_; rw [k4 _ (by omega)]; exact m3) hL
 refine ⟨fun ρ vs tm w cs q1 q2=>?_⟩
 obtain ⟨r,sc,ρ',v,w',fr,⟨a1,a2,a3,a4⟩,a5⟩:=hcall.run ρ vs tm w cs q1 q2
 refine ⟨r,sc,ρ',v,w',fr,?_,a5⟩
 obtain ⟨env5,H5,nt5⟩:=sc
 have a1:env5=z7l H.length H1.length H2.length:=a1
 have a2:nt5=69:=a2
 subst a1 a2
 have a3:H4.length≤H5.length:=a3
 have a4:x0o H5 N S (z0k l) n (fun j=>z1g l (j:Int)) H.length H1.length H2.length H3.length (y4r l S n N):=a4
 refine ⟨.ready,none,17,R17,z7l H.length H1.length H2.length,69, .normal,⟨z7l H.length H1.length H2.length,z0o H5 H3.length .dead,69⟩,a4.lp,by simp,rfl,?_⟩
 show z2s P34 0 (.seq (.region 17 (z2t 17 x4g) false) .ret) ⟨z7l H.length H1.length H2.length,z0o H5 H3.length .dead,69⟩ _
 have l6:(z0o H5 H3.length .dead).length=H5.length:=z0q _ _ _ (by omega)
 have m6:z0e (z0o H5 H3.length .dead) H1.length= .row (fld N (y4r l S n N)):=by rw [z0a _ _ _ _ (by omega)]; exact a4.fam.hF
 generalize z0o H5 H3.length .dead=H6 at l6 m6⊢
 have hr:List.range (z2t 17 x4g).size=[0,1,2]:=by kernel_rfl
 obtain ⟨w0,o0⟩:=z03 (g:=17) (p:=x4g) (i:=0) (dst:=some 68) (op:= .call ⟨.value (.func 49),#[.tmp 6],#[75]⟩) (by kernel_rfl)
 obtain ⟨w1,o1⟩:=z03 (g:=17) (p:=x4g) (i:=1) (dst:=some 2) (op:= .assign (.tmp 68)) (by kernel_rfl)
 obtain ⟨w2,o2⟩:=z03 (g:=17) (p:=x4g) (i:=2) (dst:=some 3) (op:= .assign (.const (.int .i64 0))) (by kernel_rfl)
 refine z0h (z0z ?_)
 rw [hr]
 refine x2m o0 x8h (v1x hN (w1h l S n N) (Nat.zero_le _) m6 (by omega)) rfl ?_
 show z4m P34 0 _ [1,2] ⟨_,z0o H6 H1.length (.row (fld N (y4r l S n N))),69⟩ _
 generalize z0o H6 H1.length (.row (fld N (y4r l S n N)))=H7
 refine z3q o1 (q:=false) (r:=[]) (ra:=[]) (res:=⟨true, .d (.list false 1 (z2a fe (dOf (y4r l S n N) N))),[]⟩) trivial rfl rfl rfl ?_
 refine z3q o2 (q:=false) (r:=[]) (ra:=[]) (res:=⟨true, .d (.int .i64 0),[]⟩) trivial rfl rfl rfl ?_
 refine z1t ?_
 refine z0t (y7x ?_)
 refine ⟨_,z2b.view (n:=0) (s:=⟨_,H7,69⟩) (fun _=>false) (fun id hid=>absurd hid (Nat.not_lt_zero _)) (z9a H7), .inr rfl,?_,rfl⟩
 rfl
noncomputable def z6n:Ctr:=
 ⟨17,[.agg [.int .i64, .int .i64, .int .i64, .list 3]],[],[(.ret,⟨[(0, .tuple [.list 1, .int .i64])],[],1⟩)]⟩
def q17 (x:Int×(Int×(Int×(List (List D)×Unit)))):Option (List (List D)×(Int×Unit)):=
 match y90 x.2.2.2.1 with
 |none=>none
 |some l=>if z2x x.1 x.2.1 x.2.2.1 l=0 then some (z2a fe (dOf (beK l x.1.toNat x.2.1.toNat x.2.2.1) x.1.toNat),(0,())) else some ([],(z2x x.1 x.2.1 x.2.2.1 l,()))
noncomputable def v31:(p:Prim)→(Int×(Int×(Int×(List (List D)×Unit))))→Option (List (List D)×(Int×Unit)):=fun p x=>q17 x
noncomputable def u1c:Prim→Tup (z6n).scs→Option (STup (scss (z6n).outs)):=fun p x=>v31 p x
theorem x8i:z12 P34 17:=enters_auto (b:=_) rfl (by kernel_rfl)
theorem v4u:CtrOk P34 z6n (u1c std):=by
 have key:∀ (N J S:Int) (V:List (List D)) (y:STup (scss (z6n).outs)),q17 (N,(J,(S,(V,()))))=some y→(y2i std z6n (z9u (z6n).scs (N,(J,(S,(V,())))))).2.length≤(z1p std (z6n).outs y).2.s.heap.length∧
   z6e P34 17 (y2i std z6n (z9u (z6n).scs (N,(J,(S,(V,())))))).1 (y2i std z6n (z9u (z6n).scs (N,(J,(S,(V,())))))).2 (z0r (z1p std (z6n).outs y).2.s.env 0) (z1p std (z6n).outs y).2.s.heap:=by
  intro N J S V y hy
  unfold q17 at hy
  simp only at hy
  split at hy
  ·cases hy
  ·rename_i l hd
   have hV:=y7v hd
   subst hV
   by_cases h0:z2x N J S l=0
   ·rw [if_pos h0] at hy
    cases hy
    obtain ⟨h1,h2,h3,h4,h5,h6,h7,h8,h9,h10,h11⟩:=x84 h0
    have h19:=x0m N J S l
    rw [h0] at h19
    have h10':∀ v∈l,¬ z6x (N.toNat:Int) (J.toNat:Int) v:=by rw [h2,h5]; exact h10
    have h:=v2w (N:=N.toNat) (S:=S) (n:=J.toNat) (l:=l) h4 (by rw [h2,h5]; exact h19) (by omega) (by omega) (by omega) h11 h10'
    rw [w1i h10' rfl,h5,h2] at h
    exact ⟨Nat.le_refl _,h⟩
   ·rw [if_neg h0] at hy
    cases hy
    exact ⟨Nat.le_refl _,(x5c (x0m N J S l) h0).soft (.inr ⟨1,rfl, .inr rfl⟩)⟩
 exact ⟨x8i,fun x y hy=>key x.1 x.2.1 x.2.2.1 x.2.2.2.1 y hy⟩
end Go.Am
end
noncomputable section
namespace Go.Am
def ctr3:Ctr:=
 ⟨3,[.agg [.int .i64, .int .i64, .int .i64, .list 3]],[],[(.ret,⟨[(0, .bool)],[],1⟩)]⟩
def la3:List LA:=
 []
def ja3:List JA:=
 []
def gam3:List CF:=
 [⟨w65,G22⟩,⟨w2c,G21⟩,⟨w2d,G20⟩,⟨w66,G19⟩,⟨v1r,G18⟩,⟨z6n,u1c⟩,⟨w67,G16⟩,⟨z6o,u1d⟩,⟨v1s,G14⟩]
def an3:Anns:=
 ⟨gam3,ja3,[]⟩
def G3:(p:Prim)→T21→Option T0:=
 fun p x=>
 opt.ask _ (p.cmp .gtr (p.ofNat (p.len x.2.2.2.1)) (90:Int)) (
 opt.bnd T0 _ (G14 p ()) fun a=>
 opt.ret _ (a.1,())) (
 opt.bnd ((LD×T2)) _ (v32 p (x.1,(x.2.1,(x.2.2.1,(x.2.2.2.1,()))))) fun b=>
 opt.bnd ((LD×T2)) _ (G16 p (x.1,(x.2.1,(x.2.2.1,(x.2.2.2.1,()))))) fun c=>
 opt.bnd ((LD×T2)) _ (v31 p (x.1,(x.2.1,(x.2.2.1,(x.2.2.2.1,()))))) fun d=>
 opt.bnd ((LD×T2)) _ (G18 p (x.1,(x.2.1,(x.2.2.1,(x.2.2.2.1,()))))) fun e=>
 opt.bnd T1 _ (G19 p (x.1,(x.2.1,(x.2.2.1,(x.2.2.2.1,()))))) fun f=>
 opt.bnd T1 _ (G20 p (x.1,(x.2.1,(x.2.2.1,(x.2.2.2.1,()))))) fun g=>
 opt.ask _ (p.cmp .eql f.1 g.1) (
 opt.bnd T0 _ (G21 p (b.1,(c.1,()))) fun h=>
 opt.ask _ h.1 (
 opt.ask _ (p.cmp .eql b.2.1 c.2.1) (
 opt.bnd T0 _ (G22 p (d.1,(e.1,()))) fun i=>
 opt.ask _ i.1 (
 opt.ask _ (p.cmp .eql d.2.1 e.2.1) (
 opt.bnd T0 _ (G14 p ()) fun j=>
 opt.ret _ (j.1,())) (
 opt.ret _ (Bool.false,()))) (
 opt.ret _ (Bool.false,()))) (
 opt.ret _ (Bool.false,()))) (
 opt.ret _ (Bool.false,()))) (
 opt.ret _ (Bool.false,())))
theorem ok3:CtrOk PG ctr3 (G3 std):=okF (a:=an3) (l:=la3) (gC v9z (gC v4s (gC v4t (gC v90 (gC ok18 (gC v4u (gC v91 (gC v4v (gC ok14 (gN)))))))))) (by kernel_rfl) fun _ _=>by kernel_rfl
end Go.Am
end
section
namespace Go.Am
open T11
theorem w72 (N J S:Int) (l:List Vt) (h:z2x N J S l=0):v32 std (N,(J,(S,(z0k l,()))))=some (z1z (z1m l N.toNat J.toNat),(0,())):=by
 show q15 (N,(J,(S,(z0k l,()))))=_
 unfold q15
 simp only [z8u]
 rw [if_pos h]
theorem w2u (N J S:Int) (l:List Vt) (h:z2x N J S l≠0):v32 std (N,(J,(S,(z0k l,()))))=some ([],(z2x N J S l,())):=by
 show q15 (N,(J,(S,(z0k l,()))))=_
 unfold q15
 simp only [z8u]
 rw [if_neg h]
theorem w70 (N J S:Int) (l:List Vt) (h:z2x N J S l=0):v31 std (N,(J,(S,(z0k l,()))))=some (z2a fe (dOf (beK l N.toNat J.toNat S) N.toNat),(0,())):=by
 show q17 (N,(J,(S,(z0k l,()))))=_
 unfold q17
 simp only [z8u]
 rw [if_pos h]
theorem w2t (N J S:Int) (l:List Vt) (h:z2x N J S l≠0):v31 std (N,(J,(S,(z0k l,()))))=some ([],(z2x N J S l,())):=by
 show q17 (N,(J,(S,(z0k l,()))))=_
 unfold q17
 simp only [z8u]
 rw [if_neg h]
theorem x8o (f:Nat→Nat→Bool) (n:Nat) (hn:n≤1000):(dOf f n).length≤1000000∧∀ l∈dOf f n,l.length≤1000000:=by
 refine ⟨by rw [y0d]; omega,fun l hl=>?_⟩
 unfold dOf at hl
 obtain ⟨i,_,rfl⟩:=List.mem_map.1 hl
 rw [x0q]
 have:=List.length_filter_le (f i) (List.range n)
 rw [List.length_range] at this
 omega
theorem v9e (N J S:Int) (l:List Vt):G3 std (N,(J,(S,(z0k l,()))))=some (true,()):=by
 have h14:G14 std ()=some (true,()):=v26
 unfold G3
 by_cases hm:90<l.length
 ·have hm':((l.length:Nat):Int)>90:=by omega
  simp only [z14,z15,z1c,hm',h14,eq_self,not_true,not_false_eq_true,decide_true,decide_false,Bool.not_true,Bool.not_false,Int.reduceLT,Int.reduceLE,Int.reduceNeg,Int.reduceGT,cond_true,cond_false,Int.reduceEq,Nat.le_refl,Bool.and_true,List.drop_zero]
 have hm':¬ ((l.length:Nat):Int)>90:=by omega
 have h19:=x0m N J S l
 have h20:=x0l N J S l
 by_cases h0:z2x N J S l=0
 ·have h15:=w72 N J S l h0
  have h17:=w70 N J S l h0
  obtain ⟨h1,h2,h3,h4,h5,h6,h7,h8,h9,h10,h11⟩:=x84 h0
  have h0':z2x (N.toNat:Int) (J.toNat:Int) S l=0:=by rw [h2,h5]; exact h0
  have h16:=w32 h0'
  have h18:=v25 h0'
  rw [h2,h5] at h16 h18
  have h21:=x9i (z1m l N.toNat J.toNat) (z1m l N.toNat J.toNat) (by rw [y5j]; omega)
  obtain ⟨d1,d2⟩:=x8o (beK l N.toNat J.toNat S) N.toNat (by omega)
  have h22:=w31 (fl:=fe) (fl':=fz) (dOf (beK l N.toNat J.toNat S) N.toNat) (dOf (beK l N.toNat J.toNat S) N.toNat) d1 d2
  rw [decide_eq_true rfl] at h21 h22
  rw [h0] at h19 h20
  have hln:=z1c l
  generalize z0k l=L at h15 h16 h17 h18 h19 h20 hln⊢
  simp only [z14,z15,hln,hm',h14,h15,h16,h17,h18,h19,h20,h21,h22,eq_self,not_true,not_false_eq_true,decide_true,decide_false,Bool.not_true,Bool.not_false,Int.reduceLT,Int.reduceLE,Int.reduceNeg,Int.reduceGT,cond_true,cond_false,Int.reduceEq,Nat.le_refl,Bool.and_true,List.drop_zero]
 ·have h15:=w2u N J S l h0
  have h17:=w2t N J S l h0
  have h16:=w71 h0
  have h18:=w7z h0
  have h21:G21 std ([],([],()))=some (true,()):=x9i [] [] (by simp)
  have h22:G22 std ([],([],()))=some (true,()):=w31 (fl:=fe) (fl':=fz) [] [] (by simp) (by simp)
  have hln:=z1c l
  generalize z0k l=L at h15 h16 h17 h18 h19 h20 hln⊢
  simp only [z14,z15,hln,hm',h14,h15,h16,h17,h18,h19,h20,h21,h22,eq_self,not_true,not_false_eq_true,decide_true,decide_false,Bool.not_true,Bool.not_false,Int.reduceLT,Int.reduceLE,Int.reduceNeg,Int.reduceGT,cond_true,cond_false,Int.reduceEq,Nat.le_refl,Bool.and_true,List.drop_zero]
end Go.Am
end
