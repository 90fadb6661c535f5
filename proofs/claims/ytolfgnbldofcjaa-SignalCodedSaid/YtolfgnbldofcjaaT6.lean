/-
  Proved: SignalCoded: for every input the call returns true, and each argument reads afterwards as it read before; there is no condition.
-/
import Derived.Test.YtolfgnbldofcjaaT5
import Derived.Test.YtolfgnbldofcjaaProg
import Derived.KernelRfl
set_option linter.unusedVariables false
set_option linter.unusedSimpArgs false
set_option linter.unusedSectionVars false
set_option maxRecDepth 100000
set_option maxHeartbeats 0
section
namespace Go.Am
open M06
def x1x (a b:List Pt) (i j:Nat):Bool:=decide (z3y (a.getD i (0,0)) (sb (a.getD ((i+1) % a.length) (0,0)) (a.getD i (0,0))) (b.getD j (0,0)) (sb (b.getD ((j+1) % b.length) (0,0)) (b.getD j (0,0))))
def z68 (a b:List Pt) (i j:Nat):Int×Int×Int:=y1k (a.getD i (0,0)) (sb (a.getD ((i+1) % a.length) (0,0)) (a.getD i (0,0))) (b.getD j (0,0)) (sb (b.getD ((j+1) % b.length) (0,0)) (b.getD j (0,0)))
def z29 (a b:List Pt) (i:Nat):Option Nat:=if b.length=1 then none else (List.range b.length).find? fun j=>x1x a b i j
def y2q (a b:List Pt):Option (Int×Int×Int):=if a.length=1 then none else
 match (List.range a.length).find? fun i=>(z29 a b i).isSome with
 |some i=>(z29 a b i).map fun j=>z68 a b i j
 |none=>none
def z84 (a b:List Pt):Option (Int×Int×Int):=
 match a.find? fun p=>inC b p 1 with
 |some p=>some (p.1,p.2,1)
 |none=>match b.find? fun q=>inC a q 1 with
  |some q=>some (q.1,q.2,1)
  |none=>y2q a b
theorem y5y {a b:List Pt} {S:List Pt} (hb:Cyc S b) (ka:∀ x∈a,z0y (-5000) 5000 x) (kb:∀ x∈b,z0y (-5000) 5000 x) (la:a.length≤60) (lb:b.length≤60) (z0 z1 z2 z3 n:Int) (L4 L5 L6 M9 M10 M11 M12 M13 M14 M15:List (List D)):
  z37 (x2w it0 std) (z0,z1,z2,z3,L4,L5,L6,z0d a,z0d b,M9,M10,M11,M12,M13,M14,M15,n,z0d a,(a.length:Int),(0:Int),())=match a.find? fun p=>inC b p 1 with
   |some p=>some (.inl (p.1,p.2,1,0,()))
   |none=>some (.inr (z0,z1,z2,z3,L4,L5,L6,M9,M10,M11,M12,M13,M14,M15,n,())):=by
 have key:=z11 (b:=x2w it0 std) a.length (fun i=>(z0,z1,z2,z3,L4,L5,L6,z0d a,z0d b,M9,M10,M11,M12,M13,M14,M15,n,z0d a,(a.length:Int),(i:Int),())) (fun i=>inC b (a.getD i (0,0)) 1)
  (fun i=> .inl ((a.getD i (0,0)).1,(a.getD i (0,0)).2,1,0,())) (.inr (z0,z1,z2,z3,L4,L5,L6,M9,M10,M11,M12,M13,M14,M15,n,())) (fun i hi=>by
  obtain ⟨p,hp⟩:=z0l hi
  have gp:=z0w hp
  rw [z4m hp]
  have hpb:=ka p (List.mem_of_getElem? hp)
  have h57:g57 it0 std (z0d b,p.1,p.2,1,())=_:=v5u hb (fun x hx=>by have:=kb x hx; simp only [z0y] at*; omega) (by omega) (p:=p) (by simp only [Big,z0y] at*; omega) (by omega) (by omega)
  have c1:(i:Int)<(a.length:Int):=by omega
  have c2:(i:Int)≥0:=by omega
  have hw:=z02 (i:=i) (by omega)
  cases hin:inC b p 1 with
  |true=>simp only [x2w,z0m,z0n,z0g,z0s,z0r,z1c,z0i,z0c,z0a,hw,c1,c2,gp,h57,hin]
  |false=>simp only [x2w,z0m,z0n,z0g,z0s,z0r,z1c,z0i,z0c,z0a,hw,c1,c2,gp,h57,hin]) (by
  have hn:¬ ((a.length:Int)<(a.length:Int)):=by omega
  simp only [x2w,z0m,z0n,hn])
 have e0:((0:Nat):Int)=0:=rfl
 rw [e0] at key
 rcases key with ⟨i,i1,i2,i3,i4⟩|⟨i1,i2⟩
 ·rw [z9a (d:=(0,0)) i1 i2 i3]; exact i4
 ·rw [z9b (d:=(0,0)) i1]; exact i2
theorem w3y {a b:List Pt} {S:List Pt} (hb:Cyc S b) (kb:∀ x∈b,z0y (-5000) 5000 x) (lb:b.length≤60) {i:Nat} (ki:z0y (-5000) 5000 (a.getD i (0,0))) (kw:z0y (-10000) 10000 (sb (a.getD ((i+1) % a.length) (0,0)) (a.getD i (0,0))))
  (z0 z1 z2 z3 y11 y12 y13 y14:Int) (L4 L5 L6 L7 L8 L9 L10:List (List D)) (hz:z0=0∧z1=0∧z2=0∧z3=0):
  ∃ r,z37 (y6q it0 std) (z0,z1,z2,z3,L4,L5,L6,L7,L8,L9,L10,y11,y12,y13,y14,(a.getD i (0,0)).1,(a.getD i (0,0)).2,(sb (a.getD ((i+1) % a.length) (0,0)) (a.getD i (0,0))).1,(sb (a.getD ((i+1) % a.length) (0,0)) (a.getD i (0,0))).2,z0d b,z0d b,(b.length:Int),(0:Int),())=some r∧
   match z29 a b i with
   |some j=>∃ u15 u16 u17 u18 L19,r= .inr (.inl ((z68 a b i j).1,(z68 a b i j).2.1,(z68 a b i j).2.2,0,L4,L5,L6,L7,L8,L9,L10,y11,y12,y13,y14,u15,u16,u17,u18,L19,()))
   |none=>∃ u15 u16 u17 u18 L19,r= .inl (0,0,0,0,L4,L5,L6,L7,L8,L9,L10,y11,y12,y13,y14,u15,u16,u17,u18,L19,())∨r= .inr (.inr (0,0,0,0,L4,L5,L6,L7,L8,L9,L10,y11,y12,y13,y14,u15,u16,u17,u18,L19,())):=by
 obtain ⟨rfl,rfl,rfl,rfl⟩:=hz
 generalize hP:a.getD i (0,0)=P at*
 generalize hE:sb (a.getD ((i+1) % a.length) (0,0)) P=e at*
 have hrow:z29 a b i=if b.length=1 then none else (List.range b.length).find? fun j=>decide (z3y P e (b.getD j (0,0)) (sb (b.getD ((j+1) % b.length) (0,0)) (b.getD j (0,0)))):=by
  unfold z29 x1x
  rw [hP,hE]
 have hval:∀ j,z68 a b i j=y1k P e (b.getD j (0,0)) (sb (b.getD ((j+1) % b.length) (0,0)) (b.getD j (0,0))):=fun j=>by unfold z68; rw [hP,hE]
 have hbn:1≤b.length:=by
  match b,hb with
  |q::r,_=>simp
 have sbm:∀ x∈b,z1i x:=fun x hx=>z14 (kb x hx)
 by_cases h1:b.length=1
 ·obtain ⟨q,rfl⟩:∃ q,b=[q]:=by
   match b,h1 with
   |[q],_=>exact ⟨q,rfl⟩
  rw [hrow,if_pos h1]
  have gx:=z0w (l:=[q]) (i:=0) rfl
  obtain ⟨d1,d2⟩:=z3t (sbm q (by simp)) (sbm q (by simp))
  have q1:(sb q q).1=0:=by simp [sb]
  have q2:(sb q q).2=0:=by simp [sb]
  rw [q1] at d1
  rw [q2] at d2
  have w1:IntKind.i64.wrap 1=1:=by decide
  have t1:(1:Int).tmod 1=0:=by decide
  refine ⟨_,?_,P.1,P.2,e.1,e.2,z0d [q], .inl rfl⟩
  rw [z0j]
  have:y6q it0 std (0,0,0,0,L4,L5,L6,L7,L8,L9,L10,y11,y12,y13,y14,P.1,P.2,e.1,e.2,z0d [q],z0d [q],(([q]:List Pt).length:Int),(0:Int),())=some (.inr (.inl (0,0,0,0,L4,L5,L6,L7,L8,L9,L10,y11,y12,y13,y14,P.1,P.2,e.1,e.2,z0d [q],()))):=by
   have l1:((0+1:Nat):Int)=1:=rfl
   simp only [y6q,z0m,z0n,z0g,z0s,z0r,z1c,z0i,z0c,z0a,z00,z0h,l1,Int.zero_add,w1,t1,gx,d1,d2,Int.toNat_zero,ge_iff_le,Int.le_refl,show (0:Int)<1 by decide,show ¬ (1:Int)=0 by decide,not_false_eq_true]
  rw [this]
 ·have h2:2≤b.length:=by omega
  rw [hrow,if_neg h1]
  have key:=z11 (b:=y6q it0 std) b.length (fun j=>(0,0,0,0,L4,L5,L6,L7,L8,L9,L10,y11,y12,y13,y14,P.1,P.2,e.1,e.2,z0d b,z0d b,(b.length:Int),(j:Int),())) (fun j=>decide (z3y P e (b.getD j (0,0)) (sb (b.getD ((j+1) % b.length) (0,0)) (b.getD j (0,0)))))
   (fun j=> .inr (.inl ((y1k P e (b.getD j (0,0)) (sb (b.getD ((j+1) % b.length) (0,0)) (b.getD j (0,0)))).1,(y1k P e (b.getD j (0,0)) (sb (b.getD ((j+1) % b.length) (0,0)) (b.getD j (0,0)))).2.1,(y1k P e (b.getD j (0,0)) (sb (b.getD ((j+1) % b.length) (0,0)) (b.getD j (0,0)))).2.2,0,L4,L5,L6,L7,L8,L9,L10,y11,y12,y13,y14,P.1,P.2,e.1,e.2,z0d b,())))
   (.inr (.inr (0,0,0,0,L4,L5,L6,L7,L8,L9,L10,y11,y12,y13,y14,P.1,P.2,e.1,e.2,z0d b,()))) (fun j hj=>by
   obtain ⟨u,hu⟩:=z0l hj
   obtain ⟨v,hv⟩:=z0l (l:=b) (i:=(j+1) % b.length) (Nat.mod_lt _ (by omega))
   have gu:=z0w hu
   have gv:=z0w hv
   have hne:=y0y hb h2 hu hv
   rw [z4m hu,z4m hv]
   have bu:=kb u (List.mem_of_getElem? hu)
   have bv:=kb v (List.mem_of_getElem? hv)
   obtain ⟨d1,d2⟩:=z3t (z14 bv) (z14 bu)
   obtain ⟨m1,m2⟩:=y2p (i:=j) (n:=b.length) (by omega) (by omega)
   have c2:(j:Int)<(b.length:Int):=by omega
   have c3:(j:Int)≥0:=by omega
   have c4:¬ (b.length:Int)=0:=by omega
   have c5:(((j+1) % b.length:Nat):Int)≥0:=by omega
   have c6:(((j+1) % b.length:Nat):Int)<(b.length:Int):=by have:=Nat.mod_lt (j+1) (show 0<b.length by omega); omega
   have hz:(if (sb v u).1=0 then if (sb v u).2=0 then true else false else false)=false:=by
    by_cases q1:(sb v u).1=0
    ·rw [if_pos q1,if_neg (fun e=>hne (Prod.ext q1 e))]
    ·rw [if_neg q1]
   have h76:g76 it0 std (P.1,P.2,e.1,e.2,u.1,u.2,(sb v u).1,(sb v u).2,())=_:=v5s ki kw bu (y0j bv bu)
   by_cases hm:z3y P e u (sb v u)
   ·rw [if_pos hm] at h76
    simp only [y6q,z0m,z0n,z0g,z0s,z0r,z1c,z0i,z0c,z0a,z00,z0h,m1,m2,gu,gv,d1,d2,c2,c3,c4,c5,c6,hz,h76,hm,not_false_eq_true]
   ·rw [if_neg hm] at h76
    simp only [y6q,z0m,z0n,z0g,z0s,z0r,z1c,z0i,z0c,z0a,z00,z0h,m1,m2,gu,gv,d1,d2,c2,c3,c4,c5,c6,hz,h76,hm,not_false_eq_true]) (by
   have hn:¬ ((b.length:Int)<(b.length:Int)):=by omega
   simp only [y6q,z0m,z0n,hn])
  have e0:((0:Nat):Int)=0:=rfl
  rw [e0] at key
  rcases key with ⟨j,j1,j2,j3,j4⟩|⟨j1,j2⟩
  ·have hf:=z9a (l:=List.range b.length) (d:=0) (P:=fun j=>decide (z3y P e (b.getD j (0,0)) (sb (b.getD ((j+1) % b.length) (0,0)) (b.getD j (0,0))))) (i:=j) (by simpa using j1) (by
    have:(List.range b.length).getD j 0=j:=by simp [List.getD_eq_getElem?_getD,j1]
    rw [this]; exact j2) (fun k hk=>by
    have:(List.range b.length).getD k 0=k:=by simp [List.getD_eq_getElem?_getD,show k<b.length by omega]
    rw [this]; exact j3 k hk)
   have e1:(List.range b.length).getD j 0=j:=by simp [List.getD_eq_getElem?_getD,j1]
   rw [e1] at hf
   rw [hf]
   refine ⟨_,j4,P.1,P.2,e.1,e.2,z0d b,?_⟩
   rw [hval]
  ·have hf:=z9b (l:=List.range b.length) (d:=0) (P:=fun j=>decide (z3y P e (b.getD j (0,0)) (sb (b.getD ((j+1) % b.length) (0,0)) (b.getD j (0,0))))) (fun k hk=>by
    have hk':k<b.length:=by simpa using hk
    have:(List.range b.length).getD k 0=k:=by simp [List.getD_eq_getElem?_getD,hk']
    rw [this]; exact j1 k hk')
   rw [hf]
   exact ⟨_,j2,P.1,P.2,e.1,e.2,z0d b, .inr rfl⟩
theorem w0g {a b:List Pt} {S T:List Pt} (ha:Cyc T a) (hb:Cyc S b) (ka:∀ x∈a,z0y (-5000) 5000 x) (kb:∀ x∈b,z0y (-5000) 5000 x) (la:a.length≤60) (lb:b.length≤60) (L4 L5 L6 L7 L8:List (List D)):
  ∃ r,z37 (y5z it0 std) ((0:Int),(0:Int),(0:Int),(0:Int),L4,L5,L6,L7,L8,z0d b,z0d a,z0d a,(a.length:Int),(0:Int),())=some r∧
   match y2q a b with
   |some v=>∃ M4 M5 M6 M7 M8 M9 M10,r= .inr (.inl (v.1,v.2.1,v.2.2,0,M4,M5,M6,M7,M8,M9,M10,()))
   |none=>∃ M4 M5 M6 M7 M8 M9 M10,r= .inl (0,0,0,0,M4,M5,M6,M7,M8,M9,M10,())∨r= .inr (.inr (0,0,0,0,M4,M5,M6,M7,M8,M9,M10,())):=by
 have han:1≤a.length:=by
  match a,ha with
  |q::r,_=>simp
 have sbm:∀ x∈a,z1i x:=fun x hx=>z14 (ka x hx)
 unfold y2q
 by_cases h1:a.length=1
 ·obtain ⟨q,rfl⟩:∃ q,a=[q]:=by
   match a,h1 with
   |[q],_=>exact ⟨q,rfl⟩
  rw [if_pos h1]
  have gx:=z0w (l:=[q]) (i:=0) rfl
  obtain ⟨d1,d2⟩:=z3t (sbm q (by simp)) (sbm q (by simp))
  have q1:(sb q q).1=0:=by simp [sb]
  have q2:(sb q q).2=0:=by simp [sb]
  rw [q1] at d1
  rw [q2] at d2
  have w1:IntKind.i64.wrap 1=1:=by decide
  have t1:(1:Int).tmod 1=0:=by decide
  refine ⟨_,?_,L4,L5,L6,L7,L8,z0d b,z0d [q], .inl rfl⟩
  rw [z0j]
  have:y5z it0 std ((0:Int),(0:Int),(0:Int),(0:Int),L4,L5,L6,L7,L8,z0d b,z0d [q],z0d [q],(([q]:List Pt).length:Int),(0:Int),())=some (.inr (.inl (0,0,0,0,L4,L5,L6,L7,L8,z0d b,z0d [q],()))):=by
   have l1:((0+1:Nat):Int)=1:=rfl
   simp only [y5z,z0m,z0n,z0g,z0s,z0r,z1c,z0i,z0c,z0a,z00,z0h,l1,Int.zero_add,w1,t1,gx,d1,d2,Int.toNat_zero,ge_iff_le,Int.le_refl,show (0:Int)<1 by decide,show ¬ (1:Int)=0 by decide,not_false_eq_true]
  rw [this]
 ·have h2:2≤a.length:=by omega
  rw [if_neg h1]
  have key:=z11 (b:=y5z it0 std) a.length (fun i=>((0:Int),(0:Int),(0:Int),(0:Int),L4,L5,L6,L7,L8,z0d b,z0d a,z0d a,(a.length:Int),(i:Int),())) (fun i=>(z29 a b i).isSome)
   (fun i=>match z29 a b i with|some j=> .inr (.inl ((z68 a b i j).1,(z68 a b i j).2.1,(z68 a b i j).2.2,0,L4,L5,L6,L7,L8,z0d b,z0d a,()))|none=> .inl (0,0,0,0,L4,L5,L6,L7,L8,z0d b,z0d a,()))
   (.inr (.inr (0,0,0,0,L4,L5,L6,L7,L8,z0d b,z0d a,()))) (fun i hi=>by
   obtain ⟨u,hu⟩:=z0l hi
   obtain ⟨v,hv⟩:=z0l (l:=a) (i:=(i+1) % a.length) (Nat.mod_lt _ (by omega))
   have gu:=z0w hu
   have gv:=z0w hv
   have hne:=y0y ha h2 hu hv
   have bu:=ka u (List.mem_of_getElem? hu)
   have bv:=ka v (List.mem_of_getElem? hv)
   obtain ⟨d1,d2⟩:=z3t (z14 bv) (z14 bu)
   obtain ⟨m1,m2⟩:=y2p (i:=i) (n:=a.length) (by omega) (by omega)
   have c2:(i:Int)<(a.length:Int):=by omega
   have c3:(i:Int)≥0:=by omega
   have c4:¬ (a.length:Int)=0:=by omega
   have c5:(((i+1) % a.length:Nat):Int)≥0:=by omega
   have c6:(((i+1) % a.length:Nat):Int)<(a.length:Int):=by have:=Nat.mod_lt (i+1) (show 0<a.length by omega); omega
   have hz:(if (sb v u).1=0 then if (sb v u).2=0 then true else false else false)=false:=by
    by_cases q1:(sb v u).1=0
    ·rw [if_pos q1,if_neg (fun e=>hne (Prod.ext q1 e))]
    ·rw [if_neg q1]
   obtain ⟨r,hr1,hr2⟩:=w3y (a:=a) (i:=i) hb kb lb (by rw [z4m hu]; exact bu) (by rw [z4m hu,z4m hv]; exact y0j bv bu) 0 0 0 0 u.1 u.2 (sb v u).1 (sb v u).2 L4 L5 L6 L7 L8 (z0d b) (z0d a) ⟨rfl,rfl,rfl,rfl⟩
   rw [z4m hu,z4m hv] at hr1
   cases hrow:z29 a b i with
   |some j=>
    rw [hrow] at hr2
    obtain ⟨u15,u16,u17,u18,L19,rfl⟩:=hr2
    simp only [y5z,it0_eq,z0m,z0n,z0g,z0s,z0r,z1c,z0i,z0c,z0a,z00,z0h,m1,m2,gu,gv,d1,d2,c2,c3,c4,c5,c6,hz,hr1,not_false_eq_true,Option.isSome_some]
   |none=>
    rw [hrow] at hr2
    obtain ⟨u15,u16,u17,u18,L19,rfl|rfl⟩:=hr2
    ·simp only [y5z,it0_eq,z0m,z0n,z0g,z0s,z0r,z1c,z0i,z0c,z0a,z00,z0h,m1,m2,gu,gv,d1,d2,c2,c3,c4,c5,c6,hz,hr1,not_false_eq_true,Option.isSome_none]
    ·simp only [y5z,it0_eq,z0m,z0n,z0g,z0s,z0r,z1c,z0i,z0c,z0a,z00,z0h,m1,m2,gu,gv,d1,d2,c2,c3,c4,c5,c6,hz,hr1,not_false_eq_true,Option.isSome_none]) (by
   have hn:¬ ((a.length:Int)<(a.length:Int)):=by omega
   simp only [y5z,z0m,z0n,hn])
  have e0:((0:Nat):Int)=0:=rfl
  rw [e0] at key
  rcases key with ⟨i,i1,i2,i3,i4⟩|⟨i1,i2⟩
  ·have e1:∀ k,k<a.length→(List.range a.length).getD k 0=k:=fun k hk=>by simp [List.getD_eq_getElem?_getD,hk]
   have hf:=z9a (l:=List.range a.length) (d:=0) (P:=fun i=>(z29 a b i).isSome) (i:=i) (by simpa using i1) (by rw [e1 i i1]; exact i2) (fun k hk=>by rw [e1 k (by omega)]; exact i3 k hk)
   rw [e1 i i1] at hf
   rw [hf]
   cases hrow:z29 a b i with
   |some j=>
    rw [hrow] at i4
    refine ⟨_,i4,?_⟩
    simp only [hrow,Option.map_some]
    exact ⟨L4,L5,L6,L7,L8,z0d b,z0d a,rfl⟩
   |none=>rw [hrow] at i2; cases i2
  ·have e1:∀ k,k<a.length→(List.range a.length).getD k 0=k:=fun k hk=>by simp [List.getD_eq_getElem?_getD,hk]
   have hf:=z9b (l:=List.range a.length) (d:=0) (P:=fun i=>(z29 a b i).isSome) (fun k hk=>by
    have hk':k<a.length:=by simpa using hk
    rw [e1 k hk']; exact i1 k hk')
   rw [hf]
   exact ⟨_,i2,L4,L5,L6,L7,L8,z0d b,z0d a, .inr rfl⟩
noncomputable def y1l (l:List Pt) (hs:List (List Pt)) (m:List Pt) (ks:List (List Pt)):(Int×Int×Int)×Int:=
 if z49 l hs≠0 then ((0,0,0),z49 l hs) else if z49 m ks≠0 then ((0,0,0),z49 m ks) else
  match z84 (z08 (z1a l hs)) (z08 (z1a m ks)) with
  |some v=>(v,0)
  |none=>((0,0,0),5)
theorem x20 {a b:List Pt} {S T:List Pt} (ha:Cyc T a) (hb:Cyc S b) (ka:∀ x∈a,z0y (-5000) 5000 x) (kb:∀ x∈b,z0y (-5000) 5000 x) (la:a.length≤60) (lb:b.length≤60) (L4 L5 L7 L8:List (List D)):
  z37 (y15 it0 std) ((0:Int),(0:Int),(0:Int),(0:Int),L4,L5,z0d a,L7,L8,z0d b,z0d a,z0d b,z0d b,z0d a,(0:Int),())=match a.find? fun p=>inC b p 1 with
   |some p=>some (.inl (p.1,p.2,1,0,()))
   |none=>match b.find? fun q=>inC a q 1 with
    |some q=>some (.inl (q.1,q.2,1,0,()))
    |none=>some (.inr (0,0,0,0,L4,L5,z0d a,L7,L8,z0d b,())):=by
 have v1:IntKind.i64.wrap ((0:Int)+1)=1:=by decide
 have v2:IntKind.i64.wrap ((1:Int)+1)=2:=by decide
 have q0:(0:Int)<2:=by omega
 have q1:(1:Int)<2:=by omega
 have q2:¬ (2:Int)<2:=by omega
 have q3:¬ (1:Int)=0:=by omega
 have q4:(0:Int)<((2:Nat):Int):=by omega
 have q5:(1:Int)<((2:Nat):Int):=by omega
 have q6:(1:Int)≥0:=by omega
 have q7:(0:Int)≥0:=by omega
 have l1:=y5y hb ka kb la lb 0 0 0 0 0 L4 L5 (z0d a) L7 L8 (z0d b) (z0d a) (z0d b) (z0d b) (z0d a)
 have l2:=y5y ha kb ka lb la 0 0 0 0 1 L4 L5 (z0d a) L7 L8 (z0d b) (z0d a) (z0d b) (z0d b) (z0d a)
 rw [z0j]
 cases h1:a.find? fun p=>inC b p 1 with
 |some p=>
  rw [h1] at l1
  have t0:y15 it0 std ((0:Int),(0:Int),(0:Int),(0:Int),L4,L5,z0d a,L7,L8,z0d b,z0d a,z0d b,z0d b,z0d a,(0:Int),())=some (.inr (.inl (p.1,p.2,1,0,()))):=by
   simp only [y15,it0_eq,z0m,z0n,z0c,q0,q4,q7,l1]
  rw [t0]
 |none=>
  rw [h1] at l1
  have t0:y15 it0 std ((0:Int),(0:Int),(0:Int),(0:Int),L4,L5,z0d a,L7,L8,z0d b,z0d a,z0d b,z0d b,z0d a,(0:Int),())=some (.inl ((0:Int),(0:Int),(0:Int),(0:Int),L4,L5,z0d a,L7,L8,z0d b,z0d a,z0d b,z0d b,z0d a,(1:Int),())):=by
   simp only [y15,it0_eq,z0m,z0n,z0c,q0,q4,q7,l1,z0a,v1]
  rw [t0]
  simp only
  rw [z0j]
  cases h2:b.find? fun q=>inC a q 1 with
  |some q=>
   rw [h2] at l2
   have t1:y15 it0 std ((0:Int),(0:Int),(0:Int),(0:Int),L4,L5,z0d a,L7,L8,z0d b,z0d a,z0d b,z0d b,z0d a,(1:Int),())=some (.inr (.inl (q.1,q.2,1,0,()))):=by
    simp only [y15,it0_eq,z0m,z0n,z0c,q1,q3,q5,q6,l2]
   rw [t1]
  |none=>
   rw [h2] at l2
   have t1:y15 it0 std ((0:Int),(0:Int),(0:Int),(0:Int),L4,L5,z0d a,L7,L8,z0d b,z0d a,z0d b,z0d b,z0d a,(1:Int),())=some (.inl ((0:Int),(0:Int),(0:Int),(0:Int),L4,L5,z0d a,L7,L8,z0d b,z0d a,z0d b,z0d b,z0d a,(2:Int),())):=by
    simp only [y15,it0_eq,z0m,z0n,z0c,q1,q3,q5,q6,l2,z0a,v2]
   rw [t1]
   simp only
   rw [z0j]
   have t2:y15 it0 std ((0:Int),(0:Int),(0:Int),(0:Int),L4,L5,z0d a,L7,L8,z0d b,z0d a,z0d b,z0d b,z0d a,(2:Int),())=some (.inr (.inr ((0:Int),(0:Int),(0:Int),(0:Int),L4,L5,z0d a,L7,L8,z0d b,()))):=by
    simp only [y15,z0m,z0n,q2]
   rw [t2]
theorem v5x (l:List Pt) (hs:List (List Pt)) (m:List Pt) (ks:List (List Pt)):
  G37 std (z0d l,z1m hs,z0d m,z1m ks,())=some ((y1l l hs m ks).1.1,(y1l l hs m ks).1.2.1,(y1l l hs m ks).1.2.2,(y1l l hs m ks).2,()):=by
 unfold G37 y1l
 by_cases h:z49 l hs=0
 case neg=>
  have h62:g62 it0 std (z0d l,z1m hs,z0d m,z1m ks,())=_:=x6x h m ks
  simp only [g37,z0m,z0n,h62,h,not_false_eq_true,ne_eq]
 have hf:=z12.1 h
 by_cases h':z49 m ks=0
 case neg=>
  have h62:g62 it0 std (z0d l,z1m hs,z0d m,z1m ks,())=_:=x6w hf h'
  simp only [g37,z0m,z0n,h62,h,h',not_false_eq_true,ne_eq,not_true]
 have hk:=z12.1 h'
 have h62:g62 it0 std (z0d l,z1m hs,z0d m,z1m ks,())=_:=w66 hf hk
 rw [if_neg (by simp [h]),if_neg (by simp [h'])]
 have hc:=x20 hf.cyc hk.cyc hf.cbox hk.cbox (z48 hf) (z48 hk) (z0d l) (z1m hs) (z0d m) (z1m ks)
 obtain ⟨r,r1,r2⟩:=w0g hf.cyc hk.cyc hf.cbox hk.cbox (z48 hf) (z48 hk) (z0d l) (z1m hs) (z0d (z08 (z1a l hs))) (z0d m) (z1m ks)
 unfold z84
 cases h1:(z08 (z1a l hs)).find? fun p=>inC (z08 (z1a m ks)) p 1 with
 |some p=>
  rw [h1] at hc
  simp only [g37,it0_eq,z0m,z0n,h62,hc,not_true]
 |none=>
  rw [h1] at hc
  cases h2:(z08 (z1a m ks)).find? fun q=>inC (z08 (z1a l hs)) q 1 with
  |some q=>
   rw [h2] at hc
   simp only [g37,it0_eq,z0m,z0n,h62,hc,not_true]
  |none=>
   rw [h2] at hc
   cases h3:y2q (z08 (z1a l hs)) (z08 (z1a m ks)) with
   |some v=>
    rw [h3] at r2
    obtain ⟨M4,M5,M6,M7,M8,M9,M10,rfl⟩:=r2
    simp only [g37,it0_eq,z0m,z0n,h62,hc,z0c,r1,not_true]
   |none=>
    rw [h3] at r2
    obtain ⟨M4,M5,M6,M7,M8,M9,M10,rfl|rfl⟩:=r2
    ·simp only [g37,it0_eq,z0m,z0n,h62,hc,z0c,r1,not_true]
    ·simp only [g37,it0_eq,z0m,z0n,h62,hc,z0c,r1,not_true]
end Go.Am
end
section
namespace Go.Am
open M06
theorem w5d {a b:List Pt} {x:Pt} {k:Int} (hk:0<k) (ha:InH a x k) (hb:InH b x k):InH (dif a b) (0,0) 1:=by
 intro d
 obtain ⟨p,hp,h1⟩:=ha d
 obtain ⟨q,hq,h2⟩:=hb (ng d)
 refine ⟨sb p q,z32.2 ⟨p,hp,q,hq,rfl⟩,?_⟩
 have e:k*crs d (sb (0,0) (ml (sb p q) 1))=crs d (sb x (ml p k))+crs (ng d) (sb x (ml q k)):=by simp only [crs,sb,ml,ng]; grind
 refine Classical.byContradiction fun hc=>?_
 have:=Int.mul_neg_of_pos_of_neg hk (Int.not_le.1 hc)
 omega
theorem w8r {a:List Pt} {x:Pt} {k:Int} (hk:0≤k) (h:InH a x k) (ka:∀ p∈a,z0y (-5000) 5000 p):z0y (-(5000*k)) (5000*k) x:=by
 obtain ⟨p1,q1,h1⟩:=h (0,1)
 obtain ⟨p2,q2,h2⟩:=h (0, -1)
 obtain ⟨p3,q3,h3⟩:=h (1,0)
 obtain ⟨p4,q4,h4⟩:=h (-1,0)
 have b1:=ka p1 q1; have b2:=ka p2 q2; have b3:=ka p3 q3; have b4:=ka p4 q4
 simp only [crs,sb,ml,z0y] at*
 have m1:=Int.mul_le_mul_of_nonneg_right b1.2.1 hk
 have m2:=Int.mul_le_mul_of_nonneg_right b2.1 hk
 have m3:=Int.mul_le_mul_of_nonneg_right b3.2.2.1 hk
 have m4:=Int.mul_le_mul_of_nonneg_right b4.2.2.2 hk
 omega
theorem x5w {l:List Pt} {hs:List (List Pt)} (hf:z4o l hs) {m:List Pt} {ks:List (List Pt)} (hk:z4o m ks) {v:Int×Int×Int} (h:z84 (z08 (z1a l hs)) (z08 (z1a m ks))=some v):
  1≤v.2.2∧v.2.2≤268435456∧Big (v.1,v.2.1)∧inC (z08 (z1a l hs)) (v.1,v.2.1) v.2.2=true∧inC (z08 (z1a m ks)) (v.1,v.2.1) v.2.2=true:=by
 have ha:=z2q hf.cyc
 have hb:=z2q hk.cyc
 have ka:=hf.cbox
 have kb:=hk.cbox
 generalize z08 (z1a l hs)=a at*
 generalize z08 (z1a m ks)=b at*
 have pt:∀ {S:List Pt} {p:Pt},p∈S→InH S p 1:=fun h d=>⟨_,h,by simp [crs,sb,ml]⟩
 unfold z84 at h
 cases h1:a.find? fun p=>inC b p 1 with
 |some p=>
  rw [h1] at h
  cases h
  have hp:=List.mem_of_find?_eq_some h1
  have hi:=List.find?_some h1
  have:=ka p hp
  refine ⟨by simp,by simp,by simp only [Big,z0y] at*; omega,?_,hi⟩
  exact (z3r ha (k:=1) (by omega)).2 (pt hp)
 |none=>
  rw [h1] at h
  cases h2:b.find? fun q=>inC a q 1 with
  |some q=>
   rw [h2] at h
   cases h
   have hp:=List.mem_of_find?_eq_some h2
   have hi:=List.find?_some h2
   have:=kb q hp
   refine ⟨by simp,by simp,by simp only [Big,z0y] at*; omega,hi,?_⟩
   exact (z3r hb (k:=1) (by omega)).2 (pt hp)
  |none=>
   rw [h2] at h
   simp only at h
   unfold y2q at h
   by_cases hl:a.length=1
   ·rw [if_pos hl] at h; cases h
   rw [if_neg hl] at h
   cases h3:(List.range a.length).find? fun i=>(z29 a b i).isSome with
   |none=>rw [h3] at h; cases h
   |some i=>
    rw [h3] at h
    simp only at h
    cases h4:z29 a b i with
    |none=>rw [h4] at h; cases h
    |some j=>
     rw [h4] at h
     simp only [Option.map_some,Option.some.injEq] at h
     subst h
     have hi:i<a.length:=by simpa using List.mem_of_find?_eq_some h3
     unfold z29 at h4
     by_cases hlb:b.length=1
     ·rw [if_pos hlb] at h4; cases h4
     rw [if_neg hlb] at h4
     have hj:j<b.length:=by simpa using List.mem_of_find?_eq_some h4
     have hm:=List.find?_some h4
     unfold x1x at hm
     have hm:=of_decide_eq_true hm
     unfold z68
     obtain ⟨P,hP⟩:=z0l hi
     obtain ⟨P',hP'⟩:=z0l (l:=a) (i:=(i+1) % a.length) (Nat.mod_lt _ (by omega))
     obtain ⟨Q,hQ⟩:=z0l hj
     obtain ⟨Q',hQ'⟩:=z0l (l:=b) (i:=(j+1) % b.length) (Nat.mod_lt _ (by omega))
     rw [z4m hP,z4m hP',z4m hQ,z4m hQ'] at hm⊢
     have mP:=List.mem_of_getElem? hP; have mP':=List.mem_of_getElem? hP'
     have mQ:=List.mem_of_getElem? hQ; have mQ':=List.mem_of_getElem? hQ'
     have hσ:sgn (sb P' P) (sb Q' Q)=1∨sgn (sb P' P) (sb Q' Q)= -1:=by unfold sgn; split<;>omega
     have hc:0<sgn (sb P' P) (sb Q' Q)*crs (sb P' P) (sb Q' Q)∧0≤sgn (sb P' P) (sb Q' Q)*crs (sb Q P) (sb Q' Q)∧sgn (sb P' P) (sb Q' Q)*crs (sb Q P) (sb Q' Q)≤sgn (sb P' P) (sb Q' Q)*crs (sb P' P) (sb Q' Q)∧
       0≤sgn (sb P' P) (sb Q' Q)*crs (sb Q P) (sb P' P)∧sgn (sb P' P) (sb Q' Q)*crs (sb Q P) (sb P' P)≤sgn (sb P' P) (sb Q' Q)*crs (sb P' P) (sb Q' Q):=by
      unfold sgn
      unfold z3y at hm
      split
      ·rename_i hn
       simp only [Int.neg_mul,Int.one_mul]
       omega
      ·rename_i hn
       simp only [Int.one_mul]
       omega
     obtain ⟨c1,c2,c3,c4,c5⟩:=hc
     have hin:=w8d ha hb (s:=(P,P')) (t:=(Q,Q')) mP mP' mQ mQ' hσ c1 c2 c3 c4 c5
     simp only at hin
     have hN:z36 P (sb P' P) Q (sb Q' Q)=ad (ml P (sgn (sb P' P) (sb Q' Q)*crs (sb P' P) (sb Q' Q))) (ml (sb P' P) (sgn (sb P' P) (sb Q' Q)*crs (sb Q P) (sb Q' Q))):=rfl
     rw [←hN] at hin
     have hG:z6l P (sb P' P) Q (sb Q' Q)=w4l [(z36 P (sb P' P) Q (sb Q' Q)).1,(z36 P (sb P' P) Q (sb Q' Q)).2,sgn (sb P' P) (sb Q' Q)*crs (sb P' P) (sb Q' Q)]:=rfl
     have hV:y1k P (sb P' P) Q (sb Q' Q)=((z36 P (sb P' P) Q (sb Q' Q)).1.tdiv (z6l P (sb P' P) Q (sb Q' Q)),(z36 P (sb P' P) Q (sb Q' Q)).2.tdiv (z6l P (sb P' P) Q (sb Q' Q)),(sgn (sb P' P) (sb Q' Q)*crs (sb P' P) (sb Q' Q)).tdiv (z6l P (sb P' P) Q (sb Q' Q))):=rfl
     rw [hV]
     have hdl:sgn (sb P' P) (sb Q' Q)*crs (sb P' P) (sb Q' Q)≤200000000:=by
      have:=y10 (y0j (ka P' mP') (ka P mP)) (y0j (kb Q' mQ') (kb Q mQ))
      rcases hσ with h|h<;>rw [h]<;>omega
     generalize z36 P (sb P' P) Q (sb Q' Q)=N at*
     generalize sgn (sb P' P) (sb Q' Q)*crs (sb P' P) (sb Q' Q)=D at*
     generalize z6l P (sb P' P) Q (sb Q' Q)=g at*
     have hdv:=y86 [N.1,N.2,D] 0
     have hgd:∀ x∈[N.1,N.2,D],(g:Int) ∣ x:=fun x hx=>by rw [hG]; exact hdv.2 x hx
     have gpos:0<g:=by rw [hG]; exact x56 (x:=D) (by simp) (by omega)
     have t1:=Int.tdiv_mul_cancel (hgd N.1 (by simp))
     have t2:=Int.tdiv_mul_cancel (hgd N.2 (by simp))
     have t3:=Int.tdiv_mul_cancel (hgd D (by simp))
     simp only
     generalize N.1.tdiv g=X at*
     generalize N.2.tdiv g=Y at*
     generalize D.tdiv g=d at*
     have hNe:N=ml (X,Y) g:=Prod.ext t1.symm t2.symm
     have hDe:D=(g:Int)*d:=by rw [Int.mul_comm]; exact t3.symm
     have gp:(0:Int)<g:=by omega
     have hdpos:0<d:=by
      refine Classical.byContradiction fun hc=>?_
      have:=Int.mul_nonneg (Int.le_of_lt gp) (show 0≤ -d by omega)
      rw [Int.mul_neg] at this; omega
     have hdD:d≤D:=by
      have:=Int.mul_le_mul_of_nonneg_right (show (1:Int)≤g by omega) (Int.le_of_lt hdpos)
      omega
     rw [hNe,hDe] at hin
     have i1:=(z87 gp).1 hin.1
     have i2:=(z87 gp).1 hin.2
     have bx:=w8r (Int.le_of_lt hdpos) i1 ka
     exact ⟨by omega,by omega,by simp only [Big,z0y] at*; omega,(z3r ha hdpos).2 i1,(z3r hb hdpos).2 i2⟩
theorem x37 {l:List Pt} {hs:List (List Pt)} (hf:z4o l hs) {m:List Pt} {ks:List (List Pt)} (hk:z4o m ks):(z84 (z08 (z1a l hs)) (z08 (z1a m ks))).isSome=z7v l hs m ks:=by
 have hne:=w6m (z9f hf.allNe) (z9f hk.allNe)
 have hD:=z3k hne
 have hin:z7v l hs m ks=true↔InH (dif (z08 (z1a l hs)) (z08 (z1a m ks))) (0,0) 1:=(z3r hD (by omega)).trans (y4b hD (by omega)).symm
 have ha:=z2q hf.cyc
 have hb:=z2q hk.cyc
 cases hv:z84 (z08 (z1a l hs)) (z08 (z1a m ks)) with
 |some v=>
  obtain ⟨h1,h2,h3,h4,h5⟩:=x5w hf hk hv
  symm
  exact hin.2 (w5d (by omega) ((z3r ha (by omega)).1 h4) ((z3r hb (by omega)).1 h5))
 |none=>
  symm
  rw [Option.isSome_none,Bool.eq_false_iff]
  intro hc
  obtain ⟨x,k,k0,k1,k2⟩:=v4u ha hb (hin.1 hc)
  have hm:=v7r ha hb k0 k1 k2
  unfold z84 at hv
  generalize z08 (z1a l hs)=a at*
  generalize z08 (z1a m ks)=b at*
  cases h1:a.find? fun p=>inC b p 1 with
  |some p=>rw [h1] at hv; cases hv
  |none=>
   rw [h1] at hv
   cases h2:b.find? fun q=>inC a q 1 with
   |some q=>rw [h2] at hv; cases hv
   |none=>
    rw [h2] at hv
    simp only at hv
    rcases hm with ⟨p,hp,hi⟩|⟨q,hq,hi⟩|⟨la,lb,s,hs,t,ht,hm⟩
    ·have:=List.find?_eq_none.1 h1 p hp
     exact this ((z3r hb (by omega)).2 hi)
    ·have:=List.find?_eq_none.1 h2 q hq
     exact this ((z3r ha (by omega)).2 hi)
    ·obtain ⟨i,hi,rfl⟩:=List.mem_map.1 hs
     obtain ⟨j,hj,rfl⟩:=List.mem_map.1 ht
     unfold y2q at hv
     rw [if_neg (by omega)] at hv
     have hrow:(z29 a b i).isSome=true:=by
      unfold z29
      rw [if_neg (by omega)]
      cases h4:(List.range b.length).find? fun j=>x1x a b i j with
      |some j'=>rfl
      |none=>
       have:=List.find?_eq_none.1 h4 j hj
       exact absurd (show x1x a b i j=true from decide_eq_true (show z3y _ _ _ _ from hm)) this
     cases h3:(List.range a.length).find? fun i=>(z29 a b i).isSome with
     |none=>
      have:=List.find?_eq_none.1 h3 i hi
      exact this hrow
     |some i'=>
      rw [h3] at hv
      have:=List.find?_some h3
      simp only at hv
      cases h5:z29 a b i' with
      |none=>rw [h5] at this; cases this
      |some j'=>rw [h5] at hv; cases hv
theorem w8g {l:List Pt} {hs:List (List Pt)} (hf:z4o l hs) {m:List Pt} {ks:List (List Pt)} (hk:z4o m ks) (h:(z21 (z08 (z1a l hs)) (z08 (z1a m ks))).2=true):
  w0s (z21 (z08 (z1a l hs)) (z08 (z1a m ks))).1.1 (z21 (z08 (z1a l hs)) (z08 (z1a m ks))).1.2.1 (z21 (z08 (z1a l hs)) (z08 (z1a m ks))).1.2.2∧
  okL (z08 (z1a l hs)) (z08 (z1a m ks)) (z21 (z08 (z1a l hs)) (z08 (z1a m ks))).1.1 (z21 (z08 (z1a l hs)) (z08 (z1a m ks))).1.2.1 (z21 (z08 (z1a l hs)) (z08 (z1a m ks))).1.2.2∧
  z0y (-10000) 10000 ((z21 (z08 (z1a l hs)) (z08 (z1a m ks))).1.1,(z21 (z08 (z1a l hs)) (z08 (z1a m ks))).1.2.1):=by
 have ane:=z9f hf.allNe
 have bne:=z9f hk.allNe
 have ka:=hf.cbox
 have kb:=hk.cbox
 have kax:=w97 hf
 generalize z08 (z1a l hs)=a at*
 generalize z08 (z1a m ks)=b at*
 unfold z21 at*
 cases hfd:(z5b a b).find? fun w=>decide (y03 a b w) with
 |none=>rw [hfd] at h; cases h
 |some w=>
  simp only
  have hw:=List.mem_of_find?_eq_some hfd
  have hp0:=List.find?_some hfd
  have hp:y03 a b w:=of_decide_eq_true hp0
  have hbx:=y4r ka kb w hw
  have hsm:z1i w:=by simp only [z0y,z1i] at*; omega
  have hmx:=w0d ane hsm kax
  obtain ⟨m1,p,hpa,m2⟩:=y36 ane w
  have hw2:(w.1,w.2)=w:=rfl
  refine ⟨⟨fun e=>?_,?_⟩,⟨fun x hx=>m1 x hx,fun q hq=>?_⟩,hbx⟩
  ·obtain ⟨q,hq⟩:∃ q,q∈b:=by
    match b,bne with
    |q::r,_=>exact ⟨q,by simp⟩
   have:=hp p hpa q hq
   simp only [dt,e.1,e.2] at this
   omega
  ·simp only [z0y] at hbx; omega
  ·have:=hp p hpa q hq
   rw [m2]; exact this
theorem w3r {l:List Pt} {hs:List (List Pt)} (hf:z4o l hs) {m:List Pt} {ks:List (List Pt)} (hk:z4o m ks):
  x1l l hs m ks=if z7v l hs m ks=true then ((0,0,0),21) else ((z21 (z08 (z1a l hs)) (z08 (z1a m ks))).1,0):=by
 unfold x1l
 rw [if_neg (by simp [z12.2 hf]),if_neg (by simp [z12.2 hk]),y2w hf hk]
 cases z7v l hs m ks<;>rfl
theorem w0k {l:List Pt} {hs:List (List Pt)} (hf:z4o l hs) {m:List Pt} {ks:List (List Pt)} (hk:z4o m ks):
  (z7v l hs m ks=true∧∃ v,z84 (z08 (z1a l hs)) (z08 (z1a m ks))=some v∧y1l l hs m ks=(v,0))∨(z7v l hs m ks=false∧y1l l hs m ks=((0,0,0),5)):=by
 have h:=x37 hf hk
 unfold y1l
 rw [if_neg (by simp [z12.2 hf]),if_neg (by simp [z12.2 hk])]
 cases hv:z84 (z08 (z1a l hs)) (z08 (z1a m ks)) with
 |some v=>rw [hv] at h; exact .inl ⟨h.symm,v,rfl,rfl⟩
 |none=>rw [hv] at h; exact .inr ⟨h.symm,rfl⟩
theorem w98 {l:List Pt} {hs:List (List Pt)} (hf:z4o l hs) {m:List Pt} {ks:List (List Pt)} (hk:z4o m ks) {v:Int×Int×Int} (h:z84 (z08 (z1a l hs)) (z08 (z1a m ks))=some v):w5e l hs m ks (v.1,v.2.1) v.2.2=0:=by
 obtain ⟨h1,h2,h3,h4,h5⟩:=x5w hf hk h
 unfold w5e
 rw [if_neg (by simp [z12.2 hf]),if_neg (by simp [z12.2 hk]),if_neg (by simp only [Classical.not_not]; exact ⟨h1,h2,h3⟩),if_pos ⟨h4,h5⟩]
theorem w5b {l:List Pt} {hs:List (List Pt)} (hf:z4o l hs) {m:List Pt} {ks:List (List Pt)} (hk:z4o m ks) (h:z7v l hs m ks=false):
  x2q l hs m ks (z21 (z08 (z1a l hs)) (z08 (z1a m ks))).1.1 (z21 (z08 (z1a l hs)) (z08 (z1a m ks))).1.2.1 (z21 (z08 (z1a l hs)) (z08 (z1a m ks))).1.2.2=0:=by
 obtain ⟨h1,h2,_⟩:=w8g hf hk (by rw [y2w hf hk,h]; rfl)
 unfold x2q
 rw [if_neg (by simp [z12.2 hf]),if_neg (by simp [z12.2 hk]),if_neg (by simp only [Classical.not_not]; exact h1),if_pos h2]
end Go.Am
end
section
namespace Go.Am
section
variable {κ ν:Type} [DecidableEq κ]
def w6z:List (κ×ν)→κ→Nat→Option (Nat×ν)
 |[],_,_=>none
 |(k',v)::r,k,i=>if k=k' then some (i,v) else w6z r k (i+1)
def y3l:List (κ×ν)→κ→Option ν
 |[],_=>none
 |(k',v)::r,k=>if k=k' then some v else y3l r k
def v5i:List (κ×ν)→κ→ν→List (κ×ν)
 |[],_,_=>[]
 |(k',w)::r,k,v=>if k=k' then (k,v)::r else (k',w)::v5i r k v
def v5j (m:List (κ×ν)) (k:κ) (v:ν):List (κ×ν):=match y3l m k with
 |some _=>v5i m k v
 |none=>m++[(k,v)]
theorem y94 (k:κ):∀ (m:List (κ×ν)) (i:Nat),(w6z m k i).map (·.2)=y3l m k
 |[],i=>rfl
 |(k',v)::r,i=>by
  simp only [w6z,y3l]
  split
  ·rfl
  ·exact y94 k r (i+1)
theorem x6s (k:κ) (v:ν) (k':κ):∀ m:List (κ×ν),y3l (v5i m k v) k'=if k'=k then (y3l m k).map fun _=>v else y3l m k'
 |[]=>by simp [v5i,y3l]
 |(x,w)::r=>by
  have ih:=x6s k v k' r
  simp only [v5i]
  by_cases h:k=x
  ·rw [if_pos h]; subst h
   by_cases h':k'=k
   ·simp [y3l,h']
   ·simp [y3l,h']
  ·rw [if_neg h]
   simp only [y3l]
   rw [ih]
   by_cases h':k'=x
   ·subst h'
    rw [if_pos rfl,if_neg (fun e=>h e.symm)]
    simp
   ·rw [if_neg h']
    by_cases h'':k'=k
    ·subst h''; rw [if_pos rfl,if_pos rfl,if_neg h]
    ·rw [if_neg h'',if_neg h'',if_neg h']
theorem y54 (k':κ) (l:List (κ×ν)):∀ m:List (κ×ν),y3l (m++l) k'=(y3l m k').or (y3l l k')
 |[]=>by simp [y3l]
 |(x,w)::r=>by
  simp only [List.cons_append,y3l,y54 k' l r]
  split<;>rfl
theorem w5s (m:List (κ×ν)) (k:κ) (v:ν) (k':κ):y3l (v5j m k v) k'=if k'=k then some v else y3l m k':=by
 unfold v5j
 cases h:y3l m k with
 |some w=>simp only [x6s,h,Option.map_some]
 |none=>
  simp only [y54,y3l]
  by_cases e:k'=k
  ·subst e; simp [h]
  ·simp [e]
end
structure w60 (κ ν:Type) where
 ke:κ→D
 ve:ν→D
 ks:List SK
 ka:Bool
 va:Bool
 ck:List CK
structure w60.Ok {κ ν:Type} [DecidableEq κ] (E:w60 κ ν):Prop where
 agg:∀ k,z1w (E.ke k)=E.ka
 kinds:∀ k,z1p E.ks (z05 (E.ke k))=true
 eq:∀ a b,z8j E.ks (z05 (E.ke a)) (z05 (E.ke b))=some (decide (a=b))
 vagg:∀ v,z1w (E.ve v)=E.va
 vok:∀ v,z2u E.ck (z05 (E.ve v))=true
def w60.enc {κ ν:Type} (E:w60 κ ν) (m:List (κ×ν)):List (D×D):=m.map fun e=>(E.ke e.1,E.ve e.2)
section
variable {κ ν:Type} [DecidableEq κ] {E:w60 κ ν} (h:E.Ok)
include h
theorem y5p (k:κ):∀ (m:List (κ×ν)) (i:Nat),y5q E.ks E.ka (E.ke k) (E.enc m) i=some ((w6z m k i).map fun x=>(x.1,E.ve x.2))
 |[],i=>rfl
 |(k',v)::r,i=>by
  have ih:=y5p k r (i+1)
  unfold w60.enc at ih⊢
  simp only [List.map_cons,y5q,h.agg,beq_self_eq_true,Bool.and_self,cond_true,h.eq,w6z]
  by_cases e:k=k'
  ·simp [e]
  ·simp [e,ih]
theorem w0i (m:List (κ×ν)) (k:κ):std.mOk (E.enc m) E.ks E.ka (E.ke k) E.va E.ck=true:=by
 show ((z1w (E.ke k)==E.ka)&&z1p E.ks (z05 (E.ke k))&&match y5q E.ks E.ka (E.ke k) (E.enc m) 0 with|some none=>true|some (some (_,v))=>(z1w v==E.va)&&z2u E.ck (z05 v)|none=>false)=true
 rw [y5p h,h.agg,h.kinds]
 cases w6z m k 0 with
 |none=>simp
 |some x=>simp [h.vagg,h.vok]
theorem x5t (m:List (κ×ν)) (k:κ):w21 (E.enc m) E.ks E.ka (E.ke k)=(w6z m k 0).map fun x=>(x.1,E.ve x.2):=by
 unfold w21; rw [y5p h]; rfl
theorem x5s (m:List (κ×ν)) (k:κ):std.mhas (E.enc m) E.ks E.ka (E.ke k)=(y3l m k).isSome:=by
 show (w21 _ _ _ _).isSome=_
 rw [x5t h, ←y94 k m 0]; simp
theorem w0h (m:List (κ×ν)) (k:κ) (j:Nat) {v:ν} (hv:y3l m k=some v):y6k (E.enc m) E.ks E.ka (E.ke k) j=((z05 (E.ve v))[j]?).getD .nilp:=by
 unfold y6k
 rw [x5t h]
 rw [←y94 k m 0] at hv
 cases ha:w6z m k 0 with
 |none=>rw [ha] at hv; cases hv
 |some x=>rw [ha] at hv; cases hv; rfl
theorem v2m (m:List (κ×ν)) (k:κ) (j:Nat) {v:ν} (hv:y3l m k=some v):std.mI (E.enc m) E.ks E.ka (E.ke k) j=dI (((z05 (E.ve v))[j]?).getD .nilp):=by
 show dI (y6k _ _ _ _ _)=_
 rw [w0h h m k j hv]
theorem w34 (m:List (κ×ν)) (k:κ) (hv:y3l m k=none) (w:ν):std.madd (E.enc m) (E.ke k) (E.ve w)=E.enc (v5j m k w):=by
 show E.enc m++[(E.ke k,E.ve w)]=_
 simp [v5j,hv,w60.enc]
end
end Go.Am
end
section
namespace Go.Am
open M06
theorem y84 {p q:Prop} {_:Decidable p} {_:Decidable q} (h:p↔q):(if p then some (1:Int) else none)=if q then some 1 else none:=by
 by_cases hx:p
 ·rw [if_pos hx,if_pos (h.1 hx)]
 ·rw [if_neg hx,if_neg (fun k=>hx (h.2 k))]
theorem z9y {gs:List (List Pt×List (List Pt))} {i:Nat} {g:List Pt×List (List Pt)} (h:gs[i]?=some g):(y9g gs)[i]?=some [.list false 2 (z0d g.1), .list false 1 (z1m g.2)]:=by
 unfold y9g eG; rw [List.getElem?_map,h]; rfl
theorem z3b (gs:List (List Pt×List (List Pt))):(y9g gs).length=gs.length:=by simp [y9g]
noncomputable def oG (g:List Pt×List (List Pt)):List D:=[.ref [.list false 2 (z0d g.1), .list false 1 (z1m g.2), .list false 2 (z0d (z08 (z1a g.1 g.2)))]]
noncomputable def y1t (gs:List (List Pt×List (List Pt))):List (List D):=gs.map oG
theorem y9e {gs:List (List Pt×List (List Pt))} {i:Nat} {g:List Pt×List (List Pt)} (h:gs[i]?=some g):(y1t gs)[i]?=some [.ref [.list false 2 (z0d g.1), .list false 1 (z1m g.2), .list false 2 (z0d (z08 (z1a g.1 g.2)))]]:=by
 unfold y1t; rw [List.getElem?_map,h]; rfl
theorem z8l (gs:List (List Pt×List (List Pt))):(y1t gs).length=gs.length:=by simp [y1t]
theorem y9v (a b c:List (List D)):z2u [.ref [.list 2, .list 1, .list 2]] [D.ref [.list false 2 a, .list false 1 b, .list false 2 c]]=true:=rfl
theorem z5w (a b:List (List D)):z2u [.list 2, .list 1] [D.list false 2 a, .list false 1 b]=true:=rfl
theorem y1w (a b:List (List D)):dL (([D.list false 2 a,D.list false 1 b]:List D)[0]?.getD .nilp)=a:=rfl
theorem y1v (a b:List (List D)):dL (([D.list false 2 a,D.list false 1 b]:List D)[1]?.getD .nilp)=b:=rfl
theorem x9v {gs:List (List Pt×List (List Pt))} {i:Nat} {g:List Pt×List (List Pt)} (h:gs[i]?=some g):std.rdR (y1t gs) i 0=[[.list false 2 (z0d g.1), .list false 1 (z1m g.2), .list false 2 (z0d (z08 (z1a g.1 g.2)))]]:=by
 show dR (rdD (y1t gs) i 0)=_
 unfold rdD; rw [y9e h]; rfl
theorem v30 (a b c:List (List D)):dL ((([[D.list false 2 a, .list false 1 b, .list false 2 c]]:List (List D))[0]?.bind (fun r=>r[0]?)).getD .nilp)=a:=rfl
theorem v3z (a b c:List (List D)):dL ((([[D.list false 2 a, .list false 1 b, .list false 2 c]]:List (List D))[0]?.bind (fun r=>r[1]?)).getD .nilp)=b:=rfl
theorem w1l (a b c:List (List D)):dL ((([[D.list false 2 a, .list false 1 b, .list false 2 c]]:List (List D))[0]?.bind (fun r=>r[2]?)).getD .nilp)=c:=rfl
theorem w0b {gs:List (List Pt×List (List Pt))} (h8:gs.length≤8):z37 (x2z it0 std) ([],y9g gs,(gs.length:Int),0,())=match gs.find? (fun g=>decide (z49 g.1 g.2≠0)) with
  |some g=>some (.inl (0,0,z49 g.1 g.2,()))
  |none=>some (.inr (y1t gs,())):=by
 have key:=z11 (b:=x2z it0 std) gs.length (fun i=>(y1t (gs.take i),y9g gs,(gs.length:Int),(i:Int),())) (fun i=>decide (z49 (gs.getD i ([],[])).1 (gs.getD i ([],[])).2≠0)) (fun i=> .inl (0,0,z49 (gs.getD i ([],[])).1 (gs.getD i ([],[])).2,())) (.inr (y1t gs,())) (fun i hi=>by
  obtain ⟨g,hg⟩:=z0l hi
  have ge:=z9y hg
  have hgd:gs.getD i ([],[])=g:=by rw [List.getD_eq_getElem?_getD,hg]; rfl
  rw [hgd]
  have c1:(i:Int)<(gs.length:Int):=by omega
  have c2:(i:Int)≥0:=by omega
  have hw:=z02 (i:=i) (by omega)
  by_cases h:z49 g.1 g.2=0
  ·have hf:=z12.1 h
   have h48:g48 it0 std (z0d g.1,z1m g.2,())=_:=x61 hf
   have hl:(gs.take i).length=i:=by rw [List.length_take]; omega
   have htk:(y1t (gs.take i)).take i=y1t (gs.take i):=by rw [List.take_of_length_le (by rw [z8l]; omega)]
   have hap:y1t (gs.take i)++[[.ref [.list false 2 (z0d g.1), .list false 1 (z1m g.2), .list false 2 (z0d (z08 (z1a g.1 g.2)))]]]=y1t (gs.take (i+1)):=by rw [z0z hg]; simp [y1t,oG]
   have hl':(gs.take (i+1)).length=i+1:=by rw [List.length_take]; omega
   have c3:i+1≤1000000:=by omega
   simp only [x2z,it0_eq,z0m,z0n,z5w,y1w,y1v,ge,c1,c2,h48,h,z8l,hl,htk,hap,hl',c3,z0a,hw,List.drop_zero,List.take_succ_cons,List.take_zero,Nat.le_refl,ne_eq,not_true]
  ·have h48:g48 it0 std (z0d g.1,z1m g.2,())=_:=x4w h
   simp only [x2z,it0_eq,z0m,z0n,z5w,y1w,y1v,ge,c1,c2,h48,h,ne_eq,not_false_eq_true]) (by
  have hn:¬ ((gs.length:Int)<(gs.length:Int)):=by omega
  simp only [x2z,z0m,z0n,hn,List.take_length])
 have e0:(y1t (gs.take 0),y9g gs,(gs.length:Int),((0:Nat):Int),())=([],y9g gs,(gs.length:Int),(0:Int),()):=rfl
 rw [e0] at key
 rcases key with ⟨i,i1,i2,i3,i4⟩|⟨i1,i2⟩
 ·rw [z9a (d:=([],[])) (P:=fun g=>decide (z49 g.1 g.2≠0)) i1 i2 i3]; exact i4
 ·rw [z9b (d:=([],[])) (P:=fun g=>decide (z49 g.1 g.2≠0)) i1]; exact i2
def EPr:w60 (Int×Int) Int:=⟨fun k=> .agg [.int .i64 k.1, .int .i64 k.2],fun v=> .int .i64 v,[.i, .i],true,false,[.int .i64]⟩
theorem y79:EPr.Ok where
 agg:=fun _=>rfl
 kinds:=fun _=>rfl
 eq:=fun a b=>by
  show some (decide (a.1=b.1)&&(decide (a.2=b.2)&&true))=_
  rw [Bool.and_true, ←Bool.decide_and,Option.some.injEq,decide_eq_decide,Prod.ext_iff]
 vagg:=fun _=>rfl
 vok:=fun _=>rfl
def y32 (gs:List (List Pt×List (List Pt))) (k i:Nat) (x:Nat×Nat):Prop:=
 x.1<x.2∧(x.2<k∨x.2=k∧x.1<i)∧z7v (gs.getD x.1 ([],[])).1 (gs.getD x.1 ([],[])).2 (gs.getD x.2 ([],[])).1 (gs.getD x.2 ([],[])).2=true
open Classical in
def w5w (gs:List (List Pt×List (List Pt))) (k i:Nat) (m:List ((Int×Int)×Int)):Prop:=∀ x:Nat×Nat,y3l m ((x.1:Int),(x.2:Int))=if y32 gs k i x then some 1 else none
theorem w3s {gs:List (List Pt×List (List Pt))} (h8:gs.length≤8) (hf:∀ g∈gs,z4o g.1 g.2) {k:Nat} {h:List Pt×List (List Pt)} (hk:gs[k]?=some h) {m:List ((Int×Int)×Int)} (hm:w5w gs k 0 m) (n:Int):
  ∃ m',w5w gs (k+1) 0 m'∧z37 (x2y it0 std) (y1t gs,EPr.enc m,(k:Int),z0d h.1,z1m h.2,z0d (z08 (z1a h.1 h.2)),n,(k:Int),0,k,k,(k:Int),0,())=some (y1t gs,EPr.enc m',n,(k:Int),()):=by
 have hkl:k<gs.length:=(List.getElem?_eq_some_iff.1 hk).1
 have key:=z3p (b:=x2y it0 std) k (fun (m:List ((Int×Int)×Int)) i=>(y1t gs,EPr.enc m,(k:Int),z0d h.1,z1m h.2,z0d (z08 (z1a h.1 h.2)),n,(k:Int),0,k,k,(k:Int),(i:Int),())) (fun m i=>w5w gs k i m) (fun r=>∃ m',w5w gs (k+1) 0 m'∧r=(y1t gs,EPr.enc m',n,(k:Int),())) ?_ ?_ m 0 (Nat.zero_le _) hm
 ·obtain ⟨r,h1,m',h2,rfl⟩:=key
  exact ⟨m',h2,h1⟩
 ·intro m i hi hm
  left
  obtain ⟨g,hg⟩:=z0l (l:=gs) (i:=i) (by omega)
  have ge:=y9e hg
  have gr:=x9v hg
  have h63:=x6v (hf g (List.mem_of_getElem? hg)) (hf h (List.mem_of_getElem? hk))
  have hcl:=y2w (hf g (List.mem_of_getElem? hg)) (hf h (List.mem_of_getElem? hk))
  rw [hcl] at h63
  have hw:=z02 (i:=i) (by omega)
  have c1:(i:Int)<(k:Int):=by omega
  have c2:(i:Int)≥0:=by omega
  have gi:gs.getD i ([],[])=g:=by rw [List.getD_eq_getElem?_getD,hg]; rfl
  have gk:gs.getD k ([],[])=h:=by rw [List.getD_eq_getElem?_getD,hk]; rfl
  have mok:=w0i y79 m ((i:Int),(k:Int))
  have mhas:=x5s y79 m ((i:Int),(k:Int))
  have hno:¬ y32 gs k i (i,k):=by rintro ⟨_,h1|⟨_,h1⟩,_⟩<;>simp at h1
  have hv:y3l m ((i:Int),(k:Int))=none:=by have:=hm (i,k); rw [if_neg hno] at this; exact this
  rw [hv] at mhas
  change std.mOk (EPr.enc m) [SK.i,SK.i] true (.agg [.int .i64 i, .int .i64 k]) false [.int .i64]=true at mok
  change std.mhas (EPr.enc m) [SK.i,SK.i] true (.agg [.int .i64 i, .int .i64 k])=false at mhas
  have ms:=w34 y79 m ((i:Int),(k:Int)) hv 1
  change std.madd (EPr.enc m) (.agg [.int .i64 i, .int .i64 k]) (.int .i64 1)=_ at ms
  have e01:IntKind.i64.wrap ((0:Int)+1)=1:=by decide
  cases hc:z7v g.1 g.2 h.1 h.2 with
  |false=>
   refine ⟨m,?_,fun x=>?_⟩
   ·rw [hc] at h63
    simp only [x2y,it0_eq,z0m,z0n,w1l,ge,gr,y9v,c1,c2,h63,z0a,hw]
   ·rw [hm x]
    have:y32 gs k i x↔y32 gs k (i+1) x:=by
     unfold y32
     constructor
     ·rintro ⟨a,b,c⟩; exact ⟨a,by omega,c⟩
     ·rintro ⟨a,b,c⟩
      refine ⟨a,?_,c⟩
      rcases b with b|⟨b,b'⟩
      ·exact .inl b
      ·rcases Nat.lt_or_ge x.1 i with h|h
       ·exact .inr ⟨b,h⟩
       ·have:x.1=i:=by omega
        rw [this,b,gi,gk,hc] at c; cases c
    exact y84 this
  |true=>
   refine ⟨v5j m ((i:Int),(k:Int)) 1,?_,fun x=>?_⟩
   ·rw [hc] at h63
    simp only [x2y,it0_eq,z0m,z0n,w1l,ge,gr,y9v,c1,c2,h63,z0a,hw,mok,mhas,e01,ms]
   ·rw [w5s,hm x]
    by_cases e:x=(i,k)
    ·subst e
     rw [if_pos rfl,if_pos ⟨hi, .inr ⟨rfl,Nat.lt_succ_self _⟩,by simp only; rw [gi,gk,hc]⟩]
    ·rw [if_neg (fun h=>e (by have:=Prod.mk.inj h; exact Prod.ext (by simp only; omega) (by simp only; omega)))]
     have:y32 gs k i x↔y32 gs k (i+1) x:=by
      unfold y32
      constructor
      ·rintro ⟨a,b,c⟩; exact ⟨a,by omega,c⟩
      ·rintro ⟨a,b,c⟩
       refine ⟨a,?_,c⟩
       rcases b with b|⟨b,b'⟩
       ·exact .inl b
       ·rcases Nat.lt_or_ge x.1 i with h|h
        ·exact .inr ⟨b,h⟩
        ·exact absurd (Prod.ext (by simp only; omega) (by simp only; omega)) e
     exact y84 this
 ·intro m hm
  refine ⟨_,?_,m,fun x=>?_,rfl⟩
  ·simp only [x2y,z0m,z0n,Int.lt_irrefl]
  ·rw [hm x]
   have:y32 gs k k x↔y32 gs (k+1) 0 x:=by
    unfold y32
    constructor
    ·rintro ⟨a,b,c⟩; exact ⟨a,by omega,c⟩
    ·rintro ⟨a,b,c⟩; exact ⟨a,by omega,c⟩
   exact y84 this
theorem x91 {gs:List (List Pt×List (List Pt))} (h8:gs.length≤8) (hf:∀ g∈gs,z4o g.1 g.2):
  ∃ m,w5w gs gs.length 0 m∧z37 (x4t it0 std) (y1t gs,[],(gs.length:Int),0,())=some (y1t gs,EPr.enc m,()):=by
 have key:=z3p (b:=x4t it0 std) gs.length (fun (m:List ((Int×Int)×Int)) k=>(y1t gs,EPr.enc m,(gs.length:Int),(k:Int),())) (fun m k=>w5w gs k 0 m) (fun r=>∃ m,w5w gs gs.length 0 m∧r=(y1t gs,EPr.enc m,())) ?_ ?_ [] 0 (Nat.zero_le _) (fun x=>by
  rw [if_neg (by rintro ⟨a,b,c⟩; omega)]; rfl)
 ·obtain ⟨r,h1,m',h2,rfl⟩:=key
  exact ⟨m',h2,h1⟩
 ·intro m k hk hm
  left
  obtain ⟨h,hh⟩:=z0l hk
  obtain ⟨m',h1,h2⟩:=w3s h8 hf hh hm (gs.length:Int)
  have ge:=y9e hh
  have gr:=x9v hh
  have hw:=z02 (i:=k) (by omega)
  have c1:(k:Int)<(gs.length:Int):=by omega
  have c2:(k:Int)≥0:=by omega
  have c3:(0:Int)≤(k:Int):=by omega
  have c4:(k:Int)≤(gs.length:Int):=by omega
  refine ⟨m',?_,h1⟩
  simp only [x4t,it0_eq,z0m,z0n,v30,v3z,w1l,ge,gr,z8l,y9v,c1,c2,c3,c4,Nat.add_zero,Nat.sub_zero,Int.toNat_zero,Int.le_refl,ge_iff_le,h2,z0a,hw]
 ·intro m hm
  refine ⟨_,?_,m,hm,rfl⟩
  simp only [x4t,z0m,z0n,Int.lt_irrefl]
noncomputable def cl (gs:List (List Pt×List (List Pt))) (i k:Nat):Bool:=z7v (gs.getD i ([],[])).1 (gs.getD i ([],[])).2 (gs.getD k ([],[])).1 (gs.getD k ([],[])).2
theorem w36 {gs:List (List Pt×List (List Pt))} (h8:gs.length≤8) {m:List ((Int×Int)×Int)} (hm:w5w gs gs.length 0 m) (i:Nat):
  ∃ r,z37 (x8v std) (y1t gs,EPr.enc m,(i:Int),(gs.length:Int),(i:Int),(gs.length:Int),0,())=some r∧
   ((∃ k,i<k∧k<gs.length∧cl gs i k=true∧(∀ j,i<j→j<k→cl gs i j=false)∧r= .inl ((i:Int),(k:Int),0,()))∨((∀ j,i<j→j<gs.length→cl gs i j=false)∧r= .inr (y1t gs,EPr.enc m,(gs.length:Int),(i:Int),()))):=by
 have key:=z3p (b:=x8v std) gs.length (fun (_:Unit) k=>(y1t gs,EPr.enc m,(i:Int),(gs.length:Int),(i:Int),(gs.length:Int),(k:Int),())) (fun _ k=>∀ j,i<j→j<k→cl gs i j=false) (fun r=>(∃ k,i<k∧k<gs.length∧cl gs i k=true∧(∀ j,i<j→j<k→cl gs i j=false)∧r= .inl ((i:Int),(k:Int),0,()))∨((∀ j,i<j→j<gs.length→cl gs i j=false)∧r= .inr (y1t gs,EPr.enc m,(gs.length:Int),(i:Int),()))) ?_ ?_ () 0 (Nat.zero_le _) (fun j _ h=>by omega)
 ·exact key
 ·intro _ k hk hI
  have hw:=z02 (i:=k) (by omega)
  have c1:(k:Int)<(gs.length:Int):=by omega
  have mok:=w0i y79 m ((i:Int),(k:Int))
  have mhas:=x5s y79 m ((i:Int),(k:Int))
  have hv:=hm (i,k)
  change std.mOk (EPr.enc m) [SK.i,SK.i] true (.agg [.int .i64 i, .int .i64 k]) false [.int .i64]=true at mok
  have e10:(1:Int)>0:=by decide
  have e00:¬ (0:Int)>0:=by decide
  by_cases hF:y32 gs gs.length 0 (i,k)
  ·right
   rw [if_pos hF] at hv
   rw [hv] at mhas
   change std.mhas (EPr.enc m) [SK.i,SK.i] true (.agg [.int .i64 i, .int .i64 k])=true at mhas
   have mi:=v2m y79 m ((i:Int),(k:Int)) 0 hv
   change std.mI (EPr.enc m) [SK.i,SK.i] true (.agg [.int .i64 i, .int .i64 k]) 0=1 at mi
   refine ⟨_,?_, .inl ⟨k,hF.1,hk,hF.2.2,hI,rfl⟩⟩
   simp only [x8v,z0m,z0n,c1,mok,mhas,mi,e10]
  ·left
   rw [if_neg hF] at hv
   rw [hv] at mhas
   change std.mhas (EPr.enc m) [SK.i,SK.i] true (.agg [.int .i64 i, .int .i64 k])=false at mhas
   refine ⟨(),?_,fun j h1 h2=>?_⟩
   ·simp only [x8v,z0m,z0n,c1,mok,mhas,e00,z0a,hw]
   ·rcases Nat.lt_or_ge j k with h|h
    ·exact hI j h1 h
    ·have:j=k:=by omega
     subst this
     cases hc:cl gs i j with
     |false=>rfl
     |true=>exact absurd ⟨h1, .inl hk,hc⟩ hF
 ·intro _ hI
  refine ⟨_,?_, .inr ⟨hI,rfl⟩⟩
  simp only [x8v,z0m,z0n,Int.lt_irrefl]
def z54 (gs:List (List Pt×List (List Pt))) (r:Option (Nat×Nat)):Prop:=
 match r with
 |some (a,b)=>a<b∧b<gs.length∧cl gs a b=true∧∀ i k,i<k→k<gs.length→(i<a∨i=a∧k<b)→cl gs i k=false
 |none=>∀ i k,i<k→k<gs.length→cl gs i k=false
theorem w0j {gs:List (List Pt×List (List Pt))} (h8:gs.length≤8) {m:List ((Int×Int)×Int)} (hm:w5w gs gs.length 0 m):
  ∃ r,z37 (x2x it0 std) (y1t gs,EPr.enc m,(gs.length:Int),0,())=some r∧((∃ a b,z54 gs (some (a,b))∧r= .inl ((a:Int),(b:Int),0,()))∨(z54 gs none∧r= .inr ())):=by
 have key:=z3p (b:=x2x it0 std) gs.length (fun (_:Unit) i=>(y1t gs,EPr.enc m,(gs.length:Int),(i:Int),())) (fun _ i=>∀ j k,j<i→j<k→k<gs.length→cl gs j k=false) (fun r=>(∃ a b,z54 gs (some (a,b))∧r= .inl ((a:Int),(b:Int),0,()))∨(z54 gs none∧r= .inr ())) ?_ ?_ () 0 (Nat.zero_le _) (fun j k h=>by omega)
 ·exact key
 ·intro _ i hi hI
  have hw:=z02 (i:=i) (by omega)
  have c1:(i:Int)<(gs.length:Int):=by omega
  obtain ⟨r,h1,h2⟩:=w36 h8 hm i
  rcases h2 with ⟨k,k1,k2,k3,k4,rfl⟩|⟨k1,rfl⟩
  ·right
   refine ⟨_,?_, .inl ⟨i,k,⟨k1,k2,k3,fun i' k' a b c=>?_⟩,rfl⟩⟩
   ·simp only [x2x,it0_eq,z0m,z0n,c1,z8l,h1]
   ·rcases c with c|⟨rfl,c⟩
    ·exact hI i' k' c a b
    ·exact k4 k' a c
  ·left
   refine ⟨(),?_,fun j k a b c=>?_⟩
   ·simp only [x2x,it0_eq,z0m,z0n,c1,z8l,h1,z0a,hw]
   ·rcases Nat.lt_or_ge j i with h|h
    ·exact hI j k h b c
    ·have:j=i:=by omega
     subst this; exact k1 k b c
 ·intro _ hI
  refine ⟨_,?_, .inr ⟨fun i k a b=>hI i k (by omega) a b,rfl⟩⟩
  simp only [x2x,z0m,z0n,Int.lt_irrefl]
theorem v51 {gs:List (List Pt×List (List Pt))} (h8:gs.length≤8) (hf:∀ g∈gs,z4o g.1 g.2):
  (∃ a b,z54 gs (some (a,b))∧G27 std (y9g gs,())=some ((a:Int),(b:Int),0,()))∨(z54 gs none∧G27 std (y9g gs,())=some (0,0,5,())):=by
 unfold G27
 have c1:¬ (gs.length:Int)>8:=by omega
 have h1:=w0b h8
 rw [List.find?_eq_none.2 (fun g hg=>by have:=z12.2 (hf g hg); simp [this])] at h1
 simp only at h1
 obtain ⟨m,hm,h2⟩:=x91 h8 hf
 obtain ⟨r,h3,h4⟩:=w0j h8 hm
 rcases h4 with ⟨a,b,h4,rfl⟩|⟨h4,rfl⟩
 ·exact .inl ⟨a,b,h4,by simp only [g27,it0_eq,z0m,z0n,z3b,z8l,c1,h1,h2,h3]⟩
 ·exact .inr ⟨h4,by simp only [g27,it0_eq,z0m,z0n,z3b,z8l,c1,h1,h2,h3]⟩
end Go.Am
end
noncomputable section
namespace Go.Am
def ctr8:Ctr:=
 ⟨8,[.list 2, .agg [.int .u8, .int .u8]],[],[(.ret,⟨[(0, .bool)],[],1⟩)]⟩
def la8:List LA:=
 [⟨8,[false,true,false,true,true],0,⟨⟨[(0, .list 2),(3, .bptr 0 0),(5, .int .i64)],[.box [.int .u8, .int .u8]],154⟩,[(AX.ret,⟨[(4, .bool)],[],154⟩),((AX.exit 0),⟨[(0, .list 2),(3, .bptr 0 0)],[.box [.int .u8, .int .u8]],154⟩)]⟩⟩]
def ja8:List JA:=
 [⟨8,[false,false,true],0,[(AX.normal,⟨[(0, .list 2),(3, .bptr 0 0),(22, .bool)],[.box [.int .u8, .int .u8]],154⟩)]⟩,
 ⟨8,[false,true,true,true,false,true,false,true,true,true,true,true,true],0,[(AX.normal,⟨[(0, .list 2),(9, .int .i64),(10, .int .i64),(118, .bool)],[],154⟩)]⟩,
 ⟨8,[false,false,false,true,false,true,true,true,true,true,true],0,[(AX.normal,⟨[(0, .list 2),(6, .int .i64),(7, .int .i64),(9, .int .i64),(10, .int .i64),(78, .bool)],[],154⟩)]⟩,
 ⟨8,[true,false,true,true,true,true,true,true],0,[(AX.ret,⟨[(4, .bool)],[],154⟩),(AX.normal,⟨[(0, .list 2),(9, .int .i64),(10, .int .i64)],[],154⟩)]⟩,
 ⟨8,[true,false,true,true,true,true,true],0,[(AX.normal,⟨[(0, .list 2),(6, .int .i64),(7, .int .i64),(8, .int .i64),(9, .int .i64),(10, .int .i64)],[],154⟩)]⟩]
def gam8:List CF:=
 [⟨w9s,G36⟩,⟨w9t,G32⟩,⟨w9q,G38⟩,⟨w9r,G37⟩,⟨w9u,G27⟩,⟨v4l,G29⟩,⟨v4s,G15⟩]
def an8:Anns:=
 ⟨gam8,ja8,[]⟩
def v0r (p:Prim):T57→Option ((Int×(Int×(LD×(Int×Unit))))⊕((Bool×Unit)⊕(Int×(Int×(LD×Unit))))):=
 fun a=>opt.run _ (
 opt.ask _ (p.cmp .lss a.2.2.2.1 (p.ofNat (p.len a.2.2.1))) (
 opt.need _ (p.rowOk a.2.2.1 (p.nat a.2.2.2.1) [(CK.list 2),(CK.list 1)])<|
 opt.need _ (p.cmp .geq a.2.2.2.1 (0:Int))<|
 opt.bnd T2 _ (G29 p ((p.rdL a.2.2.1 (p.nat a.2.2.2.1) 0),((p.rdL a.2.2.1 (p.nat a.2.2.2.1) 1),()))) fun b=>
 opt.ask _ (bif b.1 then Bool.false else Bool.true) (
 opt.bnd T2 _ (G15 p ()) fun c=>
 opt.ret _ (Sum.inr (Sum.inl (c.1,())))) (
 opt.ret _ (Sum.inl (a.1,(a.2.1,(a.2.2.1,((p.ar .add .i64 a.2.2.2.1 (1:Int)),()))))))) (
 opt.ret _ (Sum.inr (Sum.inr (a.1,(a.2.1,(a.2.2.1,())))))))
def G8:(p:Prim)→(LD×T3)→Option T2:=
 fun p x=>
 opt.bnd T82 _ (
 opt.run T82 (
 opt.ask _ (p.cmp .gtr (p.ofNat (p.len x.1)) (8:Int)) (
 opt.ret _ (x.2.1,(x.2.2.1,(x.1,(Bool.true,()))))) (
 opt.ret _ (x.2.1,(x.2.2.1,(x.1,((p.cmp .lss (p.ofNat (p.len x.1)) (2:Int)),()))))))) fun a=>
 opt.ask _ a.2.2.2.1 (
 opt.bnd T2 _ (G15 p ()) fun b=>
 opt.ret _ (b.1,())) (
 opt.alt T2 T18 _ (
 z37 (v0r p) (a.1,(a.2.1,(a.2.2.1,((0:Int),()))))) (fun c=>
 opt.ret _ (c.1,())) (fun d=>
 opt.bnd T18 _ (some d) fun e=>
 opt.bnd T6 _ (G27 p (e.2.2.1,())) fun f=>
 opt.need _ (p.cmp .neq (p.ofNat (p.len e.2.2.1)) (0:Int))<|
 opt.need _ (p.cmp .neq (p.ofNat (p.len e.2.2.1)) (0:Int))<|
 opt.bnd ((LD×T83)) _ (
 opt.run ((LD×T83)) (
 opt.ask _ (p.cmp .gtr (p.ar .rem .i64 (p.cvt .i64 e.1) (p.ofNat (p.len e.2.2.1))) (p.ar .rem .i64 (p.cvt .i64 e.2.1) (p.ofNat (p.len e.2.2.1)))) (
 opt.ret _ (e.2.2.1,(f.1,(f.2.1,(f.2.2.1,((p.ar .rem .i64 (p.cvt .i64 e.2.1) (p.ofNat (p.len e.2.2.1))),((p.ar .rem .i64 (p.cvt .i64 e.1) (p.ofNat (p.len e.2.2.1))),()))))))) (
 opt.ret _ (e.2.2.1,(f.1,(f.2.1,(f.2.2.1,((p.ar .rem .i64 (p.cvt .i64 e.1) (p.ofNat (p.len e.2.2.1))),((p.ar .rem .i64 (p.cvt .i64 e.2.1) (p.ofNat (p.len e.2.2.1))),()))))))))) fun g=>
 opt.alt T2 ((LD×T3)) _ (
 opt.run (((Bool×Unit)⊕(LD×(Int×(Int×Unit))))) (
 opt.ask _ (p.cmp .neq g.2.2.2.1 (5:Int)) (
 opt.bnd ((LD×T84)) _ (
 opt.run ((LD×T84)) (
 opt.ask _ (p.cmp .neq g.2.2.2.1 (0:Int)) (
 opt.ret _ (g.1,(g.2.1,(g.2.2.1,(g.2.2.2.2.1,(g.2.2.2.2.2.1,(Bool.true,()))))))) (
 opt.ask _ (p.cmp .lss g.2.1 (0:Int)) (
 opt.ret _ (g.1,(g.2.1,(g.2.2.1,(g.2.2.2.2.1,(g.2.2.2.2.2.1,(Bool.true,()))))))) (
 opt.ask _ (p.cmp .leq g.2.2.1 g.2.1) (
 opt.ret _ (g.1,(g.2.1,(g.2.2.1,(g.2.2.2.2.1,(g.2.2.2.2.2.1,(Bool.true,()))))))) (
 opt.ret _ (g.1,(g.2.1,(g.2.2.1,(g.2.2.2.2.1,(g.2.2.2.2.2.1,((p.cmp .geq g.2.2.1 (p.ofNat (p.len g.1))),()))))))))))) fun h=>
 opt.ask _ h.2.2.2.2.2.1 (
 opt.ret _ (Sum.inl (Bool.false,()))) (
 opt.need _ (p.rowOk h.1 (p.nat h.2.1) [(CK.list 2),(CK.list 1)])<|
 opt.need _ (p.cmp .geq h.2.1 (0:Int))<|
 opt.need _ (p.rowOk h.1 (p.nat h.2.2.1) [(CK.list 2),(CK.list 1)])<|
 opt.need _ (p.cmp .geq h.2.2.1 (0:Int))<|
 opt.bnd T8 _ (G37 p ((p.rdL h.1 (p.nat h.2.1) 0),((p.rdL h.1 (p.nat h.2.1) 1),((p.rdL h.1 (p.nat h.2.2.1) 0),((p.rdL h.1 (p.nat h.2.2.1) 1),()))))) fun i=>
 opt.ask _ (p.cmp .neq i.2.2.2.1 (0:Int)) (
 opt.ret _ (Sum.inl (Bool.false,()))) (
 opt.need _ (p.rowOk h.1 (p.nat h.2.1) [(CK.list 2),(CK.list 1)])<|
 opt.need _ (p.cmp .geq h.2.1 (0:Int))<|
 opt.need _ (p.rowOk h.1 (p.nat h.2.2.1) [(CK.list 2),(CK.list 1)])<|
 opt.need _ (p.cmp .geq h.2.2.1 (0:Int))<|
 opt.bnd T0 _ (G38 p ((p.rdL h.1 (p.nat h.2.1) 0),((p.rdL h.1 (p.nat h.2.1) 1),((p.rdL h.1 (p.nat h.2.2.1) 0),((p.rdL h.1 (p.nat h.2.2.1) 1),(i.1,(i.2.1,(i.2.2.1,())))))))) fun j=>
 opt.ask _ (p.cmp .neq j.1 (0:Int)) (
 opt.ret _ (Sum.inl (Bool.false,()))) (
 opt.bnd ((LD×(Int×(Int×(Bool×Unit))))) _ (
 opt.run ((LD×(Int×(Int×(Bool×Unit))))) (
 opt.ask _ (p.cmp .gtr h.2.2.2.1 h.2.1) (
 opt.ret _ (h.1,(h.2.2.2.1,(h.2.2.2.2.1,(Bool.true,()))))) (
 opt.ask _ (p.cmp .eql h.2.2.2.1 h.2.1) (
 opt.ret _ (h.1,(h.2.2.2.1,(h.2.2.2.2.1,((p.cmp .geq h.2.2.2.2.1 h.2.2.1),()))))) (
 opt.ret _ (h.1,(h.2.2.2.1,(h.2.2.2.2.1,(Bool.false,())))))))) fun k=>
 opt.ask _ k.2.2.2.1 (
 opt.bnd T2 _ (G15 p ()) fun l=>
 opt.ret _ (Sum.inl (l.1,()))) (
 opt.ret _ (Sum.inr (k.1,(k.2.1,(k.2.2.1,()))))))))) (
 opt.ret _ (Sum.inr (g.1,(g.2.2.2.2.1,(g.2.2.2.2.2.1,()))))))) (fun m=>
 opt.ret _ (m.1,())) (fun n=>
 opt.bnd ((LD×T3)) _ (some n) fun o=>
 opt.ask _ (p.cmp .eql o.2.1 o.2.2.1) (
 opt.bnd T2 _ (G15 p ()) fun q=>
 opt.ret _ (q.1,())) (
 opt.need _ (p.rowOk o.1 (p.nat o.2.1) [(CK.list 2),(CK.list 1)])<|
 opt.need _ (p.cmp .geq o.2.1 (0:Int))<|
 opt.need _ (p.rowOk o.1 (p.nat o.2.2.1) [(CK.list 2),(CK.list 1)])<|
 opt.need _ (p.cmp .geq o.2.2.1 (0:Int))<|
 opt.bnd T8 _ (G32 p ((p.rdL o.1 (p.nat o.2.1) 0),((p.rdL o.1 (p.nat o.2.1) 1),((p.rdL o.1 (p.nat o.2.2.1) 0),((p.rdL o.1 (p.nat o.2.2.1) 1),()))))) fun r=>
 opt.ask _ (p.cmp .eql r.2.2.2.1 (0:Int)) (
 opt.need _ (p.rowOk o.1 (p.nat o.2.1) [(CK.list 2),(CK.list 1)])<|
 opt.need _ (p.cmp .geq o.2.1 (0:Int))<|
 opt.need _ (p.rowOk o.1 (p.nat o.2.2.1) [(CK.list 2),(CK.list 1)])<|
 opt.need _ (p.cmp .geq o.2.2.1 (0:Int))<|
 opt.bnd T0 _ (G36 p ((p.rdL o.1 (p.nat o.2.1) 0),((p.rdL o.1 (p.nat o.2.1) 1),((p.rdL o.1 (p.nat o.2.2.1) 0),((p.rdL o.1 (p.nat o.2.2.1) 1),(r.1,(r.2.1,(r.2.2.1,())))))))) fun t=>
 opt.ask _ (p.cmp .eql t.1 (0:Int)) (
 opt.bnd T2 _ (G15 p ()) fun u=>
 opt.ret _ (u.1,())) (
 opt.ret _ (Bool.false,()))) (
 opt.ret _ (Bool.false,()))))))
theorem ok8:CtrOk PG ctr8 (G8 std):=okF (a:=an8) (l:=la8) (gC u0v (gC u0w (gC u0t (gC u0u (gC u0x (gC ok29 (gC ok15 (gN)))))))) (by kernel_rfl) fun _ _=>by kernel_rfl
end Go.Am
end
section
namespace Go.Am
open M06
theorem x42 {n:Int} (h:(Lit.int IntKind.u8 n).wf=true):0≤n∧n≤255:=by
 simp [Lit.wf,IntKind.min,IntKind.max,IntKind.signed,IntKind.bits] at h; omega
theorem x9u {a:Int} (h0:0≤a) (h1:a≤255) (n:Nat):(IntKind.i64.wrap a).tmod (n:Int)=((a.toNat % n:Nat):Int):=by
 rw [z1h _ (by omega) (by omega),Int.tmod_eq_emod_of_nonneg h0]
 have:a=(a.toNat:Int):=by omega
 rw [this]; simp
theorem w1c {gs:List (List Pt×List (List Pt))} (h8:gs.length≤8) (a b:Int):z37 (v0r std) (a,b,y9g gs,0,())=if ∀ g∈gs,z4o g.1 g.2 then some (.inr (a,b,y9g gs,())) else some (.inl (true,())):=by
 have key:=z11 (b:=v0r std) gs.length (fun i=>(a,b,y9g gs,(i:Int),())) (fun i=>!decide (z4o (gs.getD i ([],[])).1 (gs.getD i ([],[])).2)) (fun _=> .inl (true,())) (.inr (a,b,y9g gs,())) (fun i hi=>by
  obtain ⟨g,hg⟩:=z0l hi
  have ge:=z9y hg
  have hgd:gs.getD i ([],[])=g:=by rw [List.getD_eq_getElem?_getD,hg]; rfl
  rw [hgd]
  have c1:(i:Int)<(gs.length:Int):=by omega
  have c2:(i:Int)≥0:=by omega
  have hw:=z02 (i:=i) (by omega)
  have h29:=v5z g.1 g.2
  by_cases h:z4o g.1 g.2
  ·simp only [v0r,z0m,z0n,z3b,z5w,y1w,y1v,ge,c1,c2,h29,h,y0e,z0a,hw]
  ·simp only [v0r,z0m,z0n,z3b,z5w,y1w,y1v,ge,c1,c2,h29,h,y0e,z0a,hw]) (by
  have hn:¬ ((gs.length:Int)<(gs.length:Int)):=by omega
  simp only [v0r,z0m,z0n,z3b,hn])
 have e0:(a,b,y9g gs,((0:Nat):Int),())=(a,b,y9g gs,(0:Int),()):=rfl
 rw [e0] at key
 rcases key with ⟨i,i1,i2,i3,i4⟩|⟨i1,i2⟩
 ·rw [i4,if_neg]
  intro h
  obtain ⟨g,hg⟩:=z0l i1
  have hgd:gs.getD i ([],[])=g:=by rw [List.getD_eq_getElem?_getD,hg]; rfl
  rw [hgd] at i2
  simp [h g (List.mem_of_getElem? hg)] at i2
 ·rw [i2,if_pos]
  intro g hg
  obtain ⟨i,hi⟩:=List.getElem?_of_mem hg
  have:=i1 i (List.getElem?_eq_some_iff.1 hi).1
  have hgd:gs.getD i ([],[])=g:=by rw [List.getD_eq_getElem?_getD,hi]; rfl
  rw [hgd] at this
  simpa using this
theorem u0e (gs:List (List Pt×List (List Pt))) (a0 a1:Int) (w0:(Lit.int IntKind.u8 a0).wf=true) (w1:(Lit.int IntKind.u8 a1).wf=true):G8 std (y9g gs,a0,a1,())=some (true,()):=by
 unfold G8
 by_cases h8:gs.length≤8
 case neg=>
  have c1:(gs.length:Int)>8:=by omega
  simp only [z0m,z0n,z3b,c1,y0e]
 have c1:¬ (gs.length:Int)>8:=by omega
 by_cases h2:gs.length<2
 ·have c2:(gs.length:Int)<2:=by omega
  simp only [z0m,z0n,z3b,c1,c2,y0e]
 have c2:¬ (gs.length:Int)<2:=by omega
 have hfl:=w1c h8 a0 a1
 by_cases hf:∀ g∈gs,z4o g.1 g.2
 case neg=>
  rw [if_neg hf] at hfl
  simp only [z0m,z0n,z3b,c1,c2,hfl]
 rw [if_pos hf] at hfl
 obtain ⟨u0,u1⟩:=x42 w0
 obtain ⟨v0,v1⟩:=x42 w1
 have r0:=x9u u0 u1 gs.length
 have r1:=x9u v0 v1 gs.length
 have l0:=Nat.mod_lt a0.toNat (show gs.length>0 by omega)
 have l1:=Nat.mod_lt a1.toNat (show gs.length>0 by omega)
 generalize a0.toNat % gs.length=n0 at r0 l0
 generalize a1.toNat % gs.length=n1 at r1 l1
 obtain ⟨i,k,hik,hk,hsw⟩:∃ i k:Nat,i≤k∧k<gs.length∧∀ (L:List (List D)) (x y z:Int),(if (n0:Int)>(n1:Int) then some (L,x,y,z,(n1:Int),(n0:Int),()) else some (L,x,y,z,(n0:Int),(n1:Int),()))=some (L,x,y,z,(i:Int),(k:Int),()):=by
  by_cases h:(n0:Int)>(n1:Int)
  ·exact ⟨n1,n0,by omega,l0,fun _ _ _ _=>if_pos h⟩
  ·exact ⟨n0,n1,by omega,l1,fun _ _ _ _=>if_neg h⟩
 have c3:¬ (gs.length:Int)=0:=by omega
 obtain ⟨g,hg⟩:=z0l (l:=gs) (i:=i) (by omega)
 obtain ⟨h,hh⟩:=z0l hk
 have gi:=z9y hg
 have gk:=z9y hh
 have gdi:gs.getD i ([],[])=g:=by rw [List.getD_eq_getElem?_getD,hg]; rfl
 have gdk:gs.getD k ([],[])=h:=by rw [List.getD_eq_getElem?_getD,hh]; rfl
 have fi:=hf g (List.mem_of_getElem? hg)
 have fk:=hf h (List.mem_of_getElem? hh)
 have ci:(i:Int)≥0:=by omega
 have ck:(k:Int)≥0:=by omega
 have hend:cl gs i k=false→x1l g.1 g.2 h.1 h.2=((z21 (z08 (z1a g.1 g.2)) (z08 (z1a h.1 h.2))).1,0)∧x2q g.1 g.2 h.1 h.2 (z21 (z08 (z1a g.1 g.2)) (z08 (z1a h.1 h.2))).1.1 (z21 (z08 (z1a g.1 g.2)) (z08 (z1a h.1 h.2))).1.2.1 (z21 (z08 (z1a g.1 g.2)) (z08 (z1a h.1 h.2))).1.2.2=0:=by
  intro hc
  unfold cl at hc
  rw [gdi,gdk] at hc
  refine ⟨?_,w5b fi fk hc⟩
  rw [w3r fi fk,hc,if_neg (by simp)]
 have h32:=v5y g.1 g.2 h.1 h.2
 rcases v51 h8 hf with ⟨a,b,⟨f1,f2,f3,f4⟩,h27⟩|⟨f4,h27⟩
 ·obtain ⟨ga,hga⟩:=z0l (l:=gs) (i:=a) (by omega)
  obtain ⟨gb,hgb⟩:=z0l f2
  have xa:=z9y hga
  have xb:=z9y hgb
  have gda:gs.getD a ([],[])=ga:=by rw [List.getD_eq_getElem?_getD,hga]; rfl
  have gdb:gs.getD b ([],[])=gb:=by rw [List.getD_eq_getElem?_getD,hgb]; rfl
  have fa:=hf ga (List.mem_of_getElem? hga)
  have fb:=hf gb (List.mem_of_getElem? hgb)
  unfold cl at f3
  rw [gda,gdb] at f3
  have h37:=v5x ga.1 ga.2 gb.1 gb.2
  obtain ⟨v,hv,lv⟩:∃ v,z84 (z08 (z1a ga.1 ga.2)) (z08 (z1a gb.1 gb.2))=some v∧y1l ga.1 ga.2 gb.1 gb.2=(v,0):=by
   rcases w0k fa fb with ⟨_,x⟩|⟨x,_⟩
   ·exact x
   ·rw [f3] at x; cases x
  rw [lv] at h37
  have h38:=v5w ga.1 ga.2 gb.1 gb.2 (v.1,v.2.1) v.2.2
  rw [w98 fa fb hv] at h38
  simp only at h37 h38
  have q1:¬ (a:Int)<0:=by omega
  have q2:¬ (b:Int)≤(a:Int):=by omega
  have q3:¬ (b:Int)≥(gs.length:Int):=by omega
  have q4:(a:Int)≥0:=by omega
  have q5:(b:Int)≥0:=by omega
  have q6:¬ (0:Int)=5:=by decide
  by_cases d1:(i:Int)>(a:Int)
  ·simp only [z0m,z0n,z3b,c1,c2,c3,hfl,h27,z00,r0,r1,hsw,q1,q2,q3,q4,q5,q6,xa,xb,y1w,y1v,z5w,h37,h38,d1,y0e,not_true,not_false_eq_true]
  by_cases d2:(i:Int)=(a:Int)∧(k:Int)≥(b:Int)
  ·obtain ⟨d2,d3⟩:=d2
   have d4:¬ (a:Int)>(a:Int):=by omega
   simp only [z0m,z0n,z3b,c1,c2,c3,hfl,h27,z00,r0,r1,hsw,q1,q2,q3,q4,q5,q6,xa,xb,y1w,y1v,z5w,h37,h38,d2,d3,d4,y0e,not_true,not_false_eq_true]
  have d3:∀ (L:List (List D)),(if (i:Int)=(a:Int) then some (L,(i:Int),(k:Int),decide ((k:Int)≥(b:Int)),()) else some (L,(i:Int),(k:Int),false,()))=some (L,(i:Int),(k:Int),false,()):=by
   intro L
   by_cases e:(i:Int)=(a:Int)
   ·rw [if_pos e,decide_eq_false (fun h=>d2 ⟨e,h⟩)]
   ·rw [if_neg e]
  by_cases e:(i:Int)=(k:Int)
  ·have d4:¬ (k:Int)>(a:Int):=by omega
   rw [e] at hsw d3
   simp only [z0m,z0n,z3b,c1,c2,c3,hfl,h27,z00,r0,r1,hsw,q1,q2,q3,q4,q5,q6,xa,xb,y1w,y1v,z5w,h37,h38,d3,d4,y0e,not_true,not_false_eq_true]
  obtain ⟨p1,p2⟩:=hend (f4 i k (by omega) hk (by omega))
  rw [p1] at h32
  have h36:=w7b g.1 g.2 h.1 h.2 (z21 (z08 (z1a g.1 g.2)) (z08 (z1a h.1 h.2))).1.1 (z21 (z08 (z1a g.1 g.2)) (z08 (z1a h.1 h.2))).1.2.1 (z21 (z08 (z1a g.1 g.2)) (z08 (z1a h.1 h.2))).1.2.2
  rw [p2] at h36
  simp only at h32
  simp only [z0m,z0n,z3b,c1,c2,c3,hfl,h27,z00,r0,r1,hsw,q1,q2,q3,q4,q5,q6,xa,xb,y1w,y1v,z5w,h37,h38,d1,d3,e,ci,ck,gi,gk,h32,h36,y0e,not_true,not_false_eq_true]
 ·have q6:(5:Int)=5:=rfl
  by_cases e:(i:Int)=(k:Int)
  ·simp only [z0m,z0n,z3b,c1,c2,c3,hfl,h27,z00,r0,r1,hsw,q6,e,y0e,not_true,not_false_eq_true]
  obtain ⟨p1,p2⟩:=hend (f4 i k (by omega) hk)
  rw [p1] at h32
  have h36:=w7b g.1 g.2 h.1 h.2 (z21 (z08 (z1a g.1 g.2)) (z08 (z1a h.1 h.2))).1.1 (z21 (z08 (z1a g.1 g.2)) (z08 (z1a h.1 h.2))).1.2.1 (z21 (z08 (z1a g.1 g.2)) (z08 (z1a h.1 h.2))).1.2.2
  rw [p2] at h36
  simp only at h32
  simp only [z0m,z0n,z3b,c1,c2,c3,hfl,h27,z00,r0,r1,hsw,q6,e,ci,ck,gi,gk,y1w,y1v,z5w,h32,h36,y0e,not_true,not_false_eq_true]
end Go.Am
end
section
namespace Go.Proofs.Ytolfgnbldofcjaa
open Go.ChangeShapes Go.WideShapes Go.ChangeAt Go.RowKit Go.Am
theorem v6w {e0:List (List D)} {e1:Int} {e2:Int} (h:G8 std (e0,e1,e2,())=some (true,())):∃ h',z95 Try.prog 8 (toA [.list false 2 e0, .agg [.int .u8 e1, .int .u8 e2]]) [] (.d (.bool true)) h':=by
 have:=(ok8.2 (e0,e1,e2,()) (true,()) h).2
 exact ⟨_,this⟩
theorem shp8:w7s Try.prog 6 Try.f8.params.toList=true:=by kernel_rfl
theorem rt8:Try.f8.resultTypes=#[Try.f8.resultTypes.getD 0 0]:=by kernel_rfl
theorem rb8:Try.prog.underlying (Try.f8.resultTypes.getD 0 0)=some .bool:=by kernel_rfl
theorem v4y:Try.f8.params.toList.all (fun t=>decide (t<Try.prog.types.size))=true:=by kernel_rfl
set_option maxRecDepth 100000 in
theorem w2b (H:Type) (enc:TypeId×Value→H) (W:World) (base:Nat) (args:Array Value) (ds gs:List (DataW H)) (before:List MemPlace)
  (hval:∀ (j:Nat) t v,Try.f8.params[j]?=some t→args[j]?=some v→Value.okWide Try.prog W .any base t v)
  (hW:DataW.Whole enc Try.prog Try.f8.params.toList Rows.signalCodedSpec.vars false W args.toList ds gs before):
  Calls Try.prog 8 args W fun e W'=>∃ v,e= .returned v∧Rows.signalCodedSpec.post enc Try.prog Try.f8 false true false false W args v W':=by
 have hW':=hW
 obtain ⟨p,q,hA0,hV,rfl,hfz,hnd⟩:=hW
 have hA:DataW.TrodAll enc Try.prog W 0 (fun _=>true) true Try.f8.params.toList args.toList ds p:=hA0
 obtain ⟨xs,h1,h2,h3⟩:=w2o (O:=fun _=>False) (fun _ h=>h) shp8 (w0r hval) hA
 have hd:∃ x0 x1,xs=[x0,x1]∧(DK (.list [.list [.int .i64, .int .i64], .list [.list [.int .i64, .int .i64]]]) x0)∧(∃ ds,x1= .agg ds∧DKs [.int .u8, .int .u8] ds):=by
  match xs,h1 with
  |[x0,x1],h1=>exact ⟨x0,x1,rfl,h1.1,h1.2.1⟩
 obtain ⟨x0,x1,rfl,k0,k1⟩:=hd
 obtain ⟨g0,rfl⟩:=w9y k0
 obtain ⟨a1,b1,rfl,wa1,wb1⟩:=w7g k1
 obtain ⟨h',hr⟩:=v6w (u0e g0 a1 b1 wa1 wb1)
 exact (y9z hr h2 h3).mono fun e W' ⟨he,hs⟩=>⟨_,he,w4b laid rowed sized v4y rfl rt8 rb8 (fun ds hd=>by
  match ds,hd with
  |[d0,d1],_=>exact ⟨rfl,rfl,rfl⟩) hW' hs⟩
set_option maxRecDepth 100000 in
theorem w8h (os:Os) (started:os.Started) (H:Type) (enc:TypeId×Value→H):
  ReturnsInHanded {} Try.checked os 8 .any (Rows.signalCodedSpec.pre6 enc Try.prog Try.f8 Rows.signalCodedRow.domain false) (Rows.signalCodedSpec.post enc Try.prog Try.f8 false true false false):=by
 refine returnsInHanded_of_change (C:=Try.checked) own started (by kernel_rfl) Try.func8
  (ChangeSpec.witness6 (enc:=enc) (C:=Try.checked) false ⟨#[],#[.slice none 0 0, .agg #[.int .u8 0, .int .u8 0]],[]⟩ 8 (by kernel_rfl) (by kernel_rfl) (by kernel_rfl) (by kernel_rfl)) ?_
 intro W base args ds gs before hval hW _ _
 exact w2b H enc W base args ds gs before hval hW
set_option maxRecDepth 100000 in
theorem y3t:Rows.signalCodedRow.holds Try.pinned (OpenSpec.ofChange Rows.signalCodedSpec):=
 OpenClaim.holds_of_wide 8 Try.f8 rfl rfl rfl rfl rfl rfl rfl ⟨rfl,rfl,rfl,rfl,rfl⟩ rfl rfl rfl rfl rfl (by kernel_rfl) Try.func8 (by kernel_rfl)
  (of_decide_eq_true (by kernel_rfl)) (by unfold Func.isWrapper; first|(rw [if_pos (by decide+kernel)]; kernel_rfl)|(rw [if_neg (by decide+kernel)]; exact ⟨rfl,rfl⟩))
  (fun os started H enc _=>w8h os started H enc)
theorem signalCoded_holds:Rows.SignalCodedSaid:=y3t
end Go.Proofs.Ytolfgnbldofcjaa
end
