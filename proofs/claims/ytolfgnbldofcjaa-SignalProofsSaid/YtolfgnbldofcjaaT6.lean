/-
  Proved: SignalProofs: for every input the call returns true, and each argument reads afterwards as it read before; there is no condition.
-/
import Derived.Test.YtolfgnbldofcjaaT5
import Derived.Test.YtolfgnbldofcjaaProg
import Derived.KernelRfl
set_option linter.unusedVariables false
set_option linter.unusedSimpArgs false
set_option linter.unusedSectionVars false
set_option maxRecDepth 100000
set_option maxHeartbeats 0
section
namespace Go.Am
open M06
def x3j (l:List Int):List (List D):=l.map fun n=>[D.int IntKind.i64 n]
theorem x9g {l:List Int} {i:Nat} {n:Int} (h:l[i]?=some n):(x3j l)[i]?=some [D.int IntKind.i64 n]:=by simp [x3j,h]
theorem x07 (l:List Int):(x3j l).length=l.length:=by simp [x3j]
def w31 (l:List Int):Nat:=l.foldl (fun g x=>Nat.gcd g x.natAbs) 0
theorem w30 (L:List (List D)) (u v:Int):∀ (n g:Nat),n<4611686018427387904→g<4611686018427387904→
  z4o (x8k std) ((g:Int),(n:Int),L,u,v,())=some ((Nat.gcd g n:Int),L,u,v,()):=by
 intro n
 induction n using Nat.strongRecOn with
 |_ n ih=>
  intro g hn hg
  rw [z0j]
  by_cases h:n=0
  ·subst h
   have:x8k std ((g:Int),((0:Nat):Int),L,u,v,())=some (.inr ((g:Int),L,u,v,())):=by
    have c1:((0:Nat):Int)=0:=rfl
    simp only [x8k,z0l,z0m,c1,not_true]
   rw [this,Nat.gcd_zero_right]
  ·have c1:¬ (n:Int)=0:=by omega
   have hr:((g:Int)).tmod (n:Int)=((g % n:Nat):Int):=by rw [Int.tmod_eq_emod_of_nonneg (by omega)]; rfl
   have:x8k std ((g:Int),(n:Int),L,u,v,())=some (.inl ((n:Int),((g % n:Nat):Int),L,u,v,())):=by
    simp only [x8k,z0l,z0m,c1,z08,hr,not_false_eq_true]
   rw [this]
   have hlt:=Nat.mod_lt g (show 0<n by omega)
   have:=ih (g % n) hlt n (by omega) hn
   simp only [this]
   rw [Nat.gcd_comm g n,Nat.gcd_rec n g,Nat.gcd_comm]
theorem w9v {n:Int} (h1: -4611686018427387904<n) (h2:n<4611686018427387904):amt n=(n.natAbs:Int):=by
 have:=x6f (n:=n) (by omega) (by omega)
 omega
theorem v2r {g n:Nat} (h1:g<4611686018427387904) (h2:n<4611686018427387904):Nat.gcd g n<4611686018427387904:=by
 rcases Nat.eq_zero_or_pos n with h|h
 ·subst h; rw [Nat.gcd_zero_right]; exact h1
 ·exact Nat.lt_of_le_of_lt (Nat.gcd_le_right g h) h2
theorem v4z {l:List Int} (hl:l.length≤1000) (hb:∀ n∈l, -4611686018427387904<n∧n<4611686018427387904):G93 std (x3j l,())=some ((w31 l:Int),()):=by
 have key:=z7s (b:=x8d it0 std) l.length (fun (g:Nat) (i:Nat)=>((g:Int),x3j l,(l.length:Int),(i:Int),())) (fun g i=>g=w31 (l.take i)∧g<4611686018427387904) (fun r=>r=((w31 l:Int),())) (fun g i hi ⟨h1,h2⟩=>by
  left
  obtain ⟨n,hn⟩:=z0n hi
  have gn:=x9g hn
  have hbn:=hb n (List.mem_of_getElem? hn)
  have c1:(i:Int)<(l.length:Int):=by omega
  have c2:(i:Int)≥0:=by omega
  have hw:=z1a (i:=i) (by omega)
  have h77:=y1z n
  rw [w9v hbn.1 hbn.2] at h77
  have hlp:=w30 (x3j l) (l.length:Int) (i:Int) n.natAbs g (by omega) h2
  refine ⟨Nat.gcd g n.natAbs,?_,?_,v2r h2 (by omega)⟩
  ·have cc:z3r [CK.int IntKind.i64] [D.int IntKind.i64 n]=true:=rfl
   have cd:dI (([D.int IntKind.i64 n]:List D)[0]?.getD D.nilp)=n:=rfl
   simp only [x8d,it0_eq,z0l,z0m,x07,z0a,hw,c1,c2,gn,cc,cd,h77,hlp]
  ·rw [h1,w31,w31,z0z hn,List.foldl_append]; rfl) (fun g ⟨h1,h2⟩=>by
  have hn':¬ ((l.length:Int)<(l.length:Int)):=by omega
  rw [List.take_length] at h1
  exact ⟨((g:Int),()),by simp only [x8d,z0l,z0m,hn'],by rw [h1]⟩) 0 0 (Nat.zero_le _) ⟨rfl,by omega⟩
 obtain ⟨r,h1,rfl⟩:=key
 have e0:((0:Nat):Int)=0:=rfl
 rw [e0] at h1
 unfold G93
 simp only [g93,it0_eq,z0l,z0m,x07,h1]
theorem y84:∀ (l:List Int) (g:Nat),(l.foldl (fun g x=>Nat.gcd g x.natAbs) g) ∣ g∧∀ x∈l,((l.foldl (fun g x=>Nat.gcd g x.natAbs) g:Nat):Int) ∣ x
 |[],g=>⟨Nat.dvd_refl _,by simp⟩
 |x::l,g=>by
  obtain ⟨h1,h2⟩:=y84 l (Nat.gcd g x.natAbs)
  simp only [List.foldl_cons]
  refine ⟨Nat.dvd_trans h1 (Nat.gcd_dvd_left _ _),fun y hy=>?_⟩
  rcases List.mem_cons.1 hy with rfl|hy
  ·exact Int.ofNat_dvd_left.2 (Nat.dvd_trans h1 (Nat.gcd_dvd_right _ _))
  ·exact h2 y hy
theorem x5s {l:List Int} {x:Int} (hx:x∈l) (h0:x≠0):0<w31 l:=by
 have:=(y84 l 0).2 x hx
 refine Nat.pos_of_ne_zero fun h=>h0 ?_
 have h':(l.foldl (fun g x=>Nat.gcd g x.natAbs) 0)=0:=h
 rw [h'] at this
 exact Int.zero_dvd.1 this
def z3y (P e Q f:Pt):Prop:=
 (0<crs e f∧0≤crs (sb Q P) f∧crs (sb Q P) f≤crs e f∧0≤crs (sb Q P) e∧crs (sb Q P) e≤crs e f)∨
 (0< - crs e f∧0≤ - crs (sb Q P) f∧ - crs (sb Q P) f≤ - crs e f∧0≤ - crs (sb Q P) e∧ - crs (sb Q P) e≤ - crs e f)
instance (P e Q f:Pt):Decidable (z3y P e Q f):=by unfold z3y; infer_instance
def sgn (e f:Pt):Int:=if crs e f<0 then -1 else 1
def z37 (P e Q f:Pt):Pt:=ad (ml P (sgn e f*crs e f)) (ml e (sgn e f*crs (sb Q P) f))
def z6l (P e Q f:Pt):Nat:=w31 [(z37 P e Q f).1,(z37 P e Q f).2,sgn e f*crs e f]
def y1g (P e Q f:Pt):Int×Int×Int:=((z37 P e Q f).1.tdiv (z6l P e Q f),(z37 P e Q f).2.tdiv (z6l P e Q f),(sgn e f*crs e f).tdiv (z6l P e Q f))
theorem w9e {e f:Pt} {A B:Int} (hA:0≤A) (he:z0y (-A) A e) (hf:z0y (-B) B f): -(2*(A*B))≤crs e f∧crs e f≤2*(A*B)∧(-(A*B)≤e.1*f.2∧e.1*f.2≤A*B)∧(-(A*B)≤e.2*f.1∧e.2*f.1≤A*B):=by
 obtain ⟨e1,e2,e3,e4⟩:=he
 obtain ⟨f1,f2,f3,f4⟩:=hf
 have m1:=z4j hA e1 e2 f3 f4
 have m2:=z4j hA e3 e4 f1 f2
 simp only [crs]
 omega
theorem y1v {e f:Pt} (he:z0y (-10000) 10000 e) (hf:z0y (-10000) 10000 f):IntKind.i64.wrap (e.1*f.2)=e.1*f.2∧IntKind.i64.wrap (e.2*f.1)=e.2*f.1∧IntKind.i64.wrap (e.1*f.2 - e.2*f.1)=crs e f∧ -200000000≤crs e f∧crs e f≤200000000:=by
 obtain ⟨h1,h2,h3,h4⟩:=w9e (A:=10000) (by omega) he hf
 exact ⟨z1h _ (by omega) (by omega),z1h _ (by omega) (by omega),by rw [z1h _ (by omega) (by omega)]; rfl,by omega,by omega⟩
theorem v44 {P e Q f:Pt} (hP:z0y (-5000) 5000 P) (he:z0y (-10000) 10000 e) (hQ:z0y (-5000) 5000 Q) (hf:z0y (-10000) 10000 f):
  G76 std (P.1,P.2,e.1,e.2,Q.1,Q.2,f.1,f.2,())=some (if z3y P e Q f then ((y1g P e Q f).1,(y1g P e Q f).2.1,(y1g P e Q f).2.2,true,()) else (0,0,0,false,())):=by
 have hap:z0y (-10000) 10000 (sb Q P):=z8v hQ hP
 obtain ⟨d1,d2⟩:=z3f (z1x hQ) (z1x hP)
 obtain ⟨w1,w2,w3,b1,b2⟩:=y1v he hf
 obtain ⟨w4,w5,w6,b3,b4⟩:=y1v hap hf
 obtain ⟨w7,w8,w9,b5,b6⟩:=y1v hap he
 unfold G76
 have hneg:∀ x:Int, -200000000≤x→x≤200000000→IntKind.i64.wrap (0 - x)= - x:=fun x h1 h2=>by rw [z1h]<;>omega
 have n1:=hneg _ b1 b2
 have n2:=hneg _ b3 b4
 have n3:=hneg _ b5 b6
 have fin:∀ (σ:Int),σ=sgn e f→z3y P e Q f→0<σ*crs e f→0≤σ*crs (sb Q P) f→σ*crs (sb Q P) f≤σ*crs e f→
   (IntKind.i64.wrap (P.1*(σ*crs e f))=P.1*(σ*crs e f)∧IntKind.i64.wrap (P.2*(σ*crs e f))=P.2*(σ*crs e f)∧IntKind.i64.wrap (e.1*(σ*crs (sb Q P) f))=e.1*(σ*crs (sb Q P) f)∧IntKind.i64.wrap (e.2*(σ*crs (sb Q P) f))=e.2*(σ*crs (sb Q P) f))∧
   (IntKind.i64.wrap (P.1*(σ*crs e f)+e.1*(σ*crs (sb Q P) f))=(z37 P e Q f).1∧IntKind.i64.wrap (P.2*(σ*crs e f)+e.2*(σ*crs (sb Q P) f))=(z37 P e Q f).2)∧
   g93 it0 std ([[D.int IntKind.i64 (z37 P e Q f).1],[D.int IntKind.i64 (z37 P e Q f).2],[D.int IntKind.i64 (σ*crs e f)]],())=some ((z6l P e Q f:Int),())∧¬ (z6l P e Q f:Int)=0∧
   IntKind.i64.wrap ((z37 P e Q f).1.tdiv (z6l P e Q f))=(y1g P e Q f).1∧IntKind.i64.wrap ((z37 P e Q f).2.tdiv (z6l P e Q f))=(y1g P e Q f).2.1∧IntKind.i64.wrap ((σ*crs e f).tdiv (z6l P e Q f))=(y1g P e Q f).2.2:=by
  intro σ hσ hm h0 h1 h2
  have hs:σ=1∨σ= -1:=by rw [hσ]; unfold sgn; split<;>omega
  have hd:σ*crs e f≤200000000:=by rcases hs with rfl|rfl<;>omega
  have hmN:z37 P e Q f=ad (ml P (σ*crs e f)) (ml e (σ*crs (sb Q P) f)):=by rw [z37, ←hσ]
  have hmG:z6l P e Q f=w31 [(z37 P e Q f).1,(z37 P e Q f).2,σ*crs e f]:=by rw [z6l, ←hσ]
  have hmV:y1g P e Q f=((z37 P e Q f).1.tdiv (z6l P e Q f),(z37 P e Q f).2.tdiv (z6l P e Q f),(σ*crs e f).tdiv (z6l P e Q f)):=by rw [y1g, ←hσ]
  generalize σ*crs e f=d at*
  generalize σ*crs (sb Q P) f=x at*
  obtain ⟨p1,p2,p3,p4⟩:=hP
  obtain ⟨e1,e2,e3,e4⟩:=he
  have m1:=z4j (A:=5000) (B:=200000000) (a:=P.1) (b:=d) (by omega) (by omega) (by omega) (by omega) (by omega)
  have m2:=z4j (A:=5000) (B:=200000000) (a:=P.2) (b:=d) (by omega) (by omega) (by omega) (by omega) (by omega)
  have m3:=z4j (A:=10000) (B:=200000000) (a:=e.1) (b:=x) (by omega) (by omega) (by omega) (by omega) (by omega)
  have m4:=z4j (A:=10000) (B:=200000000) (a:=e.2) (b:=x) (by omega) (by omega) (by omega) (by omega) (by omega)
  have q1:(z37 P e Q f).1=P.1*d+e.1*x:=by rw [hmN]; rfl
  have q2:(z37 P e Q f).2=P.2*d+e.2*x:=by rw [hmN]; rfl
  have hb1: -4611686018427387904<(z37 P e Q f).1∧(z37 P e Q f).1<4611686018427387904:=by omega
  have hb2: -4611686018427387904<(z37 P e Q f).2∧(z37 P e Q f).2<4611686018427387904:=by omega
  have hg:=v4z (l:=[(z37 P e Q f).1,(z37 P e Q f).2,d]) (by simp) (fun n hn=>by
   simp only [List.mem_cons,List.not_mem_nil,or_false] at hn
   rcases hn with rfl|rfl|rfl
   ·exact hb1
   ·exact hb2
   ·omega)
  rw [←hmG] at hg
  have hpos:0<z6l P e Q f:=by rw [hmG]; exact x5s (x:=d) (by simp) (by omega)
  have td:∀ n:Int, -4611686018427387904<n→n<4611686018427387904→IntKind.i64.wrap (n.tdiv (z6l P e Q f))=n.tdiv (z6l P e Q f):=by
   intro n h1 h2
   have:(n.tdiv (z6l P e Q f)).natAbs≤n.natAbs:=by
    rw [Int.natAbs_tdiv]
    exact Nat.div_le_self _ _
   rw [z1h]<;>omega
  refine ⟨⟨z1h _ (by omega) (by omega),z1h _ (by omega) (by omega),z1h _ (by omega) (by omega),z1h _ (by omega) (by omega)⟩,⟨?_,?_⟩,hg,by omega,?_,?_,?_⟩
  ·rw [z1h _ (by omega) (by omega),q1]
  ·rw [z1h _ (by omega) (by omega),q2]
  ·rw [td _ hb1.1 hb1.2,hmV]
  ·rw [td _ hb2.1 hb2.2,hmV]
  ·rw [td _ (by omega) (by omega),hmV]
 have t3:∀ u v w:List D,([u,v,w]:List (List D)).drop 0=[u,v,w]:=fun _ _ _=>rfl
 by_cases k0:crs e f<0
 ·have hσ:(-1:Int)=sgn e f:=by unfold sgn; rw [if_pos k0]
  have u1:¬ - crs e f=0:=by omega
  by_cases k2: - crs (sb Q P) f<0
  ·have:¬ z3y P e Q f:=fun h=>by unfold z3y at h; omega
   rw [if_neg this]
   simp only [g76,z0l,z0m,z0a,z0g,z0u,d1,d2,w1,w2,w3,w4,w5,w6,w7,w8,w9,n1,n2,n3,k0,u1,k2]
  by_cases k3: - crs (sb Q P) f> - crs e f
  ·have:¬ z3y P e Q f:=fun h=>by unfold z3y at h; omega
   rw [if_neg this]
   simp only [g76,z0l,z0m,z0a,z0g,z0u,d1,d2,w1,w2,w3,w4,w5,w6,w7,w8,w9,n1,n2,n3,k0,u1,k2,k3]
  by_cases k4: - crs (sb Q P) e<0
  ·have:¬ z3y P e Q f:=fun h=>by unfold z3y at h; omega
   rw [if_neg this]
   simp only [g76,z0l,z0m,z0a,z0g,z0u,d1,d2,w1,w2,w3,w4,w5,w6,w7,w8,w9,n1,n2,n3,k0,u1,k2,k3,k4]
  by_cases k5: - crs (sb Q P) e> - crs e f
  ·have:¬ z3y P e Q f:=fun h=>by unfold z3y at h; omega
   rw [if_neg this]
   simp only [g76,z0l,z0m,z0a,z0g,z0u,d1,d2,w1,w2,w3,w4,w5,w6,w7,w8,w9,n1,n2,n3,k0,u1,k2,k3,k4,k5]
  have hm:z3y P e Q f:= .inr ⟨by omega,by omega,by omega,by omega,by omega⟩
  have ff:=fin (-1) hσ hm (by omega) (by omega) (by omega)
  simp only [Int.neg_mul,Int.one_mul] at ff
  obtain ⟨⟨f1,f2,f3,f4⟩,⟨f5,f6⟩,f7,f8,f9,f10,f11⟩:=ff
  rw [if_pos hm]
  simp only [g76,z0l,z0m,z0a,z0g,z0u,y6v,d1,d2,w1,w2,w3,w4,w5,w6,w7,w8,w9,n1,n2,n3,k0,u1,k2,k3,k4,k5,f1,f2,f3,f4,f5,f6,List.drop_zero,List.take_succ_cons,List.take_zero,Nat.le_refl,f7,f8,f9,f10,f11,not_false_eq_true,show 0+3≤0+1+1+1 by decide,show (3:Nat)≤0+1+1+1 by decide,show (3:Nat)≤1+1+1 by decide]
 ·have hσ:(1:Int)=sgn e f:=by unfold sgn; rw [if_neg k0]
  by_cases k1:crs e f=0
  ·have:¬ z3y P e Q f:=fun h=>by unfold z3y at h; omega
   rw [if_neg this]
   have k1':¬ (0:Int)<0:=by omega
   simp only [g76,z0l,z0m,z0a,z0g,z0u,d1,d2,w1,w2,w3,w4,w5,w6,w7,w8,w9,n1,n2,n3,k1,k1']
  by_cases k2:crs (sb Q P) f<0
  ·have:¬ z3y P e Q f:=fun h=>by unfold z3y at h; omega
   rw [if_neg this]
   simp only [g76,z0l,z0m,z0a,z0g,z0u,d1,d2,w1,w2,w3,w4,w5,w6,w7,w8,w9,n1,n2,n3,k0,k1,k2]
  by_cases k3:crs (sb Q P) f>crs e f
  ·have:¬ z3y P e Q f:=fun h=>by unfold z3y at h; omega
   rw [if_neg this]
   simp only [g76,z0l,z0m,z0a,z0g,z0u,d1,d2,w1,w2,w3,w4,w5,w6,w7,w8,w9,n1,n2,n3,k0,k1,k2,k3]
  by_cases k4:crs (sb Q P) e<0
  ·have:¬ z3y P e Q f:=fun h=>by unfold z3y at h; omega
   rw [if_neg this]
   simp only [g76,z0l,z0m,z0a,z0g,z0u,d1,d2,w1,w2,w3,w4,w5,w6,w7,w8,w9,n1,n2,n3,k0,k1,k2,k3,k4]
  by_cases k5:crs (sb Q P) e>crs e f
  ·have:¬ z3y P e Q f:=fun h=>by unfold z3y at h; omega
   rw [if_neg this]
   simp only [g76,z0l,z0m,z0a,z0g,z0u,d1,d2,w1,w2,w3,w4,w5,w6,w7,w8,w9,n1,n2,n3,k0,k1,k2,k3,k4,k5]
  have hm:z3y P e Q f:= .inl ⟨by omega,by omega,by omega,by omega,by omega⟩
  have ff:=fin 1 hσ hm (by omega) (by omega) (by omega)
  simp only [Int.one_mul] at ff
  obtain ⟨⟨f1,f2,f3,f4⟩,⟨f5,f6⟩,f7,f8,f9,f10,f11⟩:=ff
  rw [if_pos hm]
  simp only [g76,z0l,z0m,z0a,z0g,z0u,y6v,d1,d2,w1,w2,w3,w4,w5,w6,w7,w8,w9,n1,n2,n3,k0,k1,k2,k3,k4,k5,f1,f2,f3,f4,f5,f6,List.drop_zero,List.take_succ_cons,List.take_zero,Nat.le_refl,f7,f8,f9,f10,f11,not_false_eq_true,show (3:Nat)≤1+1+1 by decide]
end Go.Am
end
section
namespace Go.Am
open M06
def x1p (a b:List Pt) (i j:Nat):Bool:=decide (z3y (a.getD i (0,0)) (sb (a.getD ((i+1) % a.length) (0,0)) (a.getD i (0,0))) (b.getD j (0,0)) (sb (b.getD ((j+1) % b.length) (0,0)) (b.getD j (0,0))))
def z68 (a b:List Pt) (i j:Nat):Int×Int×Int:=y1g (a.getD i (0,0)) (sb (a.getD ((i+1) % a.length) (0,0)) (a.getD i (0,0))) (b.getD j (0,0)) (sb (b.getD ((j+1) % b.length) (0,0)) (b.getD j (0,0)))
def z29 (a b:List Pt) (i:Nat):Option Nat:=if b.length=1 then none else (List.range b.length).find? fun j=>x1p a b i j
def y2p (a b:List Pt):Option (Int×Int×Int):=if a.length=1 then none else
 match (List.range a.length).find? fun i=>(z29 a b i).isSome with
 |some i=>(z29 a b i).map fun j=>z68 a b i j
 |none=>none
def y0a (a b:List Pt):Option (Int×Int×Int):=
 match a.find? fun p=>inC b p 1 with
 |some p=>some (p.1,p.2,1)
 |none=>match b.find? fun q=>inC a q 1 with
  |some q=>some (q.1,q.2,1)
  |none=>y2p a b
theorem y5w {a b:List Pt} {S:List Pt} (hb:Cyc S b) (ka:∀ x∈a,z0y (-5000) 5000 x) (kb:∀ x∈b,z0y (-5000) 5000 x) (la:a.length≤60) (lb:b.length≤60) (z0 z1 z2 z3 n:Int) (L4 L5 L6 M9 M10 M11 M12 M13 M14 M15:List (List D)):
  z4o (x2l it0 std) (z0,z1,z2,z3,L4,L5,L6,z0d a,z0d b,M9,M10,M11,M12,M13,M14,M15,n,z0d a,(a.length:Int),(0:Int),())=match a.find? fun p=>inC b p 1 with
   |some p=>some (.inl (p.1,p.2,1,0,()))
   |none=>some (.inr (z0,z1,z2,z3,L4,L5,L6,M9,M10,M11,M12,M13,M14,M15,n,())):=by
 have key:=z2b (b:=x2l it0 std) a.length (fun i=>(z0,z1,z2,z3,L4,L5,L6,z0d a,z0d b,M9,M10,M11,M12,M13,M14,M15,n,z0d a,(a.length:Int),(i:Int),())) (fun i=>inC b (a.getD i (0,0)) 1)
  (fun i=> .inl ((a.getD i (0,0)).1,(a.getD i (0,0)).2,1,0,())) (.inr (z0,z1,z2,z3,L4,L5,L6,M9,M10,M11,M12,M13,M14,M15,n,())) (fun i hi=>by
  obtain ⟨p,hp⟩:=z0n hi
  have gp:=z0t hp
  rw [z4n hp]
  have hpb:=ka p (List.mem_of_getElem? hp)
  have h57:g57 it0 std (z0d b,p.1,p.2,1,())=_:=w6m hb (fun x hx=>by have:=kb x hx; simp only [z0y] at*; omega) (by omega) (p:=p) (by simp only [Big,z0y] at*; omega) (by omega) (by omega)
  have c1:(i:Int)<(a.length:Int):=by omega
  have c2:(i:Int)≥0:=by omega
  have hw:=z1a (i:=i) (by omega)
  cases hin:inC b p 1 with
  |true=>simp only [x2l,z0l,z0m,z0h,z0s,z0r,z09,z0i,z0c,z0a,hw,c1,c2,gp,h57,hin]
  |false=>simp only [x2l,z0l,z0m,z0h,z0s,z0r,z09,z0i,z0c,z0a,hw,c1,c2,gp,h57,hin]) (by
  have hn:¬ ((a.length:Int)<(a.length:Int)):=by omega
  simp only [x2l,z0l,z0m,hn])
 have e0:((0:Nat):Int)=0:=rfl
 rw [e0] at key
 rcases key with ⟨i,i1,i2,i3,i4⟩|⟨i1,i2⟩
 ·rw [y1p (d:=(0,0)) i1 i2 i3]; exact i4
 ·rw [y1q (d:=(0,0)) i1]; exact i2
theorem w3g {a b:List Pt} {S:List Pt} (hb:Cyc S b) (kb:∀ x∈b,z0y (-5000) 5000 x) (lb:b.length≤60) {i:Nat} (ki:z0y (-5000) 5000 (a.getD i (0,0))) (kw:z0y (-10000) 10000 (sb (a.getD ((i+1) % a.length) (0,0)) (a.getD i (0,0))))
  (z0 z1 z2 z3 y11 y12 y13 y14:Int) (L4 L5 L6 L7 L8 L9 L10:List (List D)) (hz:z0=0∧z1=0∧z2=0∧z3=0):
  ∃ r,z4o (y6m it0 std) (z0,z1,z2,z3,L4,L5,L6,L7,L8,L9,L10,y11,y12,y13,y14,(a.getD i (0,0)).1,(a.getD i (0,0)).2,(sb (a.getD ((i+1) % a.length) (0,0)) (a.getD i (0,0))).1,(sb (a.getD ((i+1) % a.length) (0,0)) (a.getD i (0,0))).2,z0d b,z0d b,(b.length:Int),(0:Int),())=some r∧
   match z29 a b i with
   |some j=>∃ u15 u16 u17 u18 L19,r= .inr (.inl ((z68 a b i j).1,(z68 a b i j).2.1,(z68 a b i j).2.2,0,L4,L5,L6,L7,L8,L9,L10,y11,y12,y13,y14,u15,u16,u17,u18,L19,()))
   |none=>∃ u15 u16 u17 u18 L19,r= .inl (0,0,0,0,L4,L5,L6,L7,L8,L9,L10,y11,y12,y13,y14,u15,u16,u17,u18,L19,())∨r= .inr (.inr (0,0,0,0,L4,L5,L6,L7,L8,L9,L10,y11,y12,y13,y14,u15,u16,u17,u18,L19,())):=by
 obtain ⟨rfl,rfl,rfl,rfl⟩:=hz
 generalize hP:a.getD i (0,0)=P at*
 generalize hE:sb (a.getD ((i+1) % a.length) (0,0)) P=e at*
 have hrow:z29 a b i=if b.length=1 then none else (List.range b.length).find? fun j=>decide (z3y P e (b.getD j (0,0)) (sb (b.getD ((j+1) % b.length) (0,0)) (b.getD j (0,0)))):=by
  unfold z29 x1p
  rw [hP,hE]
 have hval:∀ j,z68 a b i j=y1g P e (b.getD j (0,0)) (sb (b.getD ((j+1) % b.length) (0,0)) (b.getD j (0,0))):=fun j=>by unfold z68; rw [hP,hE]
 have hbn:1≤b.length:=by
  match b,hb with
  |q::r,_=>simp
 have sbm:∀ x∈b,z1c x:=fun x hx=>z1x (kb x hx)
 by_cases h1:b.length=1
 ·obtain ⟨q,rfl⟩:∃ q,b=[q]:=by
   match b,h1 with
   |[q],_=>exact ⟨q,rfl⟩
  rw [hrow,if_pos h1]
  have gx:=z0t (l:=[q]) (i:=0) rfl
  obtain ⟨d1,d2⟩:=z3f (sbm q (by simp)) (sbm q (by simp))
  have q1:(sb q q).1=0:=by simp [sb]
  have q2:(sb q q).2=0:=by simp [sb]
  rw [q1] at d1
  rw [q2] at d2
  have w1:IntKind.i64.wrap 1=1:=by decide
  have t1:(1:Int).tmod 1=0:=by decide
  refine ⟨_,?_,P.1,P.2,e.1,e.2,z0d [q], .inl rfl⟩
  rw [z0j]
  have:y6m it0 std (0,0,0,0,L4,L5,L6,L7,L8,L9,L10,y11,y12,y13,y14,P.1,P.2,e.1,e.2,z0d [q],z0d [q],(([q]:List Pt).length:Int),(0:Int),())=some (.inr (.inl (0,0,0,0,L4,L5,L6,L7,L8,L9,L10,y11,y12,y13,y14,P.1,P.2,e.1,e.2,z0d [q],()))):=by
   have l1:((0+1:Nat):Int)=1:=rfl
   simp only [y6m,z0l,z0m,z0h,z0s,z0r,z09,z0i,z0c,z0a,z08,z0g,l1,Int.zero_add,w1,t1,gx,d1,d2,Int.toNat_zero,ge_iff_le,Int.le_refl,show (0:Int)<1 by decide,show ¬ (1:Int)=0 by decide,not_false_eq_true]
  rw [this]
 ·have h2:2≤b.length:=by omega
  rw [hrow,if_neg h1]
  have key:=z2b (b:=y6m it0 std) b.length (fun j=>(0,0,0,0,L4,L5,L6,L7,L8,L9,L10,y11,y12,y13,y14,P.1,P.2,e.1,e.2,z0d b,z0d b,(b.length:Int),(j:Int),())) (fun j=>decide (z3y P e (b.getD j (0,0)) (sb (b.getD ((j+1) % b.length) (0,0)) (b.getD j (0,0)))))
   (fun j=> .inr (.inl ((y1g P e (b.getD j (0,0)) (sb (b.getD ((j+1) % b.length) (0,0)) (b.getD j (0,0)))).1,(y1g P e (b.getD j (0,0)) (sb (b.getD ((j+1) % b.length) (0,0)) (b.getD j (0,0)))).2.1,(y1g P e (b.getD j (0,0)) (sb (b.getD ((j+1) % b.length) (0,0)) (b.getD j (0,0)))).2.2,0,L4,L5,L6,L7,L8,L9,L10,y11,y12,y13,y14,P.1,P.2,e.1,e.2,z0d b,())))
   (.inr (.inr (0,0,0,0,L4,L5,L6,L7,L8,L9,L10,y11,y12,y13,y14,P.1,P.2,e.1,e.2,z0d b,()))) (fun j hj=>by
   obtain ⟨u,hu⟩:=z0n hj
   obtain ⟨v,hv⟩:=z0n (l:=b) (i:=(j+1) % b.length) (Nat.mod_lt _ (by omega))
   have gu:=z0t hu
   have gv:=z0t hv
   have hne:=y0u hb h2 hu hv
   rw [z4n hu,z4n hv]
   have bu:=kb u (List.mem_of_getElem? hu)
   have bv:=kb v (List.mem_of_getElem? hv)
   obtain ⟨d1,d2⟩:=z3f (z1x bv) (z1x bu)
   obtain ⟨m1,m2⟩:=y2o (i:=j) (n:=b.length) (by omega) (by omega)
   have c2:(j:Int)<(b.length:Int):=by omega
   have c3:(j:Int)≥0:=by omega
   have c4:¬ (b.length:Int)=0:=by omega
   have c5:(((j+1) % b.length:Nat):Int)≥0:=by omega
   have c6:(((j+1) % b.length:Nat):Int)<(b.length:Int):=by have:=Nat.mod_lt (j+1) (show 0<b.length by omega); omega
   have hz:(if (sb v u).1=0 then if (sb v u).2=0 then true else false else false)=false:=by
    by_cases q1:(sb v u).1=0
    ·rw [if_pos q1,if_neg (fun e=>hne (Prod.ext q1 e))]
    ·rw [if_neg q1]
   have h76:g76 it0 std (P.1,P.2,e.1,e.2,u.1,u.2,(sb v u).1,(sb v u).2,())=_:=v44 ki kw bu (z8v bv bu)
   by_cases hm:z3y P e u (sb v u)
   ·rw [if_pos hm] at h76
    simp only [y6m,z0l,z0m,z0h,z0s,z0r,z09,z0i,z0c,z0a,z08,z0g,m1,m2,gu,gv,d1,d2,c2,c3,c4,c5,c6,hz,h76,hm,not_false_eq_true]
   ·rw [if_neg hm] at h76
    simp only [y6m,z0l,z0m,z0h,z0s,z0r,z09,z0i,z0c,z0a,z08,z0g,m1,m2,gu,gv,d1,d2,c2,c3,c4,c5,c6,hz,h76,hm,not_false_eq_true]) (by
   have hn:¬ ((b.length:Int)<(b.length:Int)):=by omega
   simp only [y6m,z0l,z0m,hn])
  have e0:((0:Nat):Int)=0:=rfl
  rw [e0] at key
  rcases key with ⟨j,j1,j2,j3,j4⟩|⟨j1,j2⟩
  ·have hf:=y1p (l:=List.range b.length) (d:=0) (P:=fun j=>decide (z3y P e (b.getD j (0,0)) (sb (b.getD ((j+1) % b.length) (0,0)) (b.getD j (0,0))))) (i:=j) (by simpa using j1) (by
    have:(List.range b.length).getD j 0=j:=by simp [List.getD_eq_getElem?_getD,j1]
    rw [this]; exact j2) (fun k hk=>by
    have:(List.range b.length).getD k 0=k:=by simp [List.getD_eq_getElem?_getD,show k<b.length by omega]
    rw [this]; exact j3 k hk)
   have e1:(List.range b.length).getD j 0=j:=by simp [List.getD_eq_getElem?_getD,j1]
   rw [e1] at hf
   rw [hf]
   refine ⟨_,j4,P.1,P.2,e.1,e.2,z0d b,?_⟩
   rw [hval]
  ·have hf:=y1q (l:=List.range b.length) (d:=0) (P:=fun j=>decide (z3y P e (b.getD j (0,0)) (sb (b.getD ((j+1) % b.length) (0,0)) (b.getD j (0,0))))) (fun k hk=>by
    have hk':k<b.length:=by simpa using hk
    have:(List.range b.length).getD k 0=k:=by simp [List.getD_eq_getElem?_getD,hk']
    rw [this]; exact j1 k hk')
   rw [hf]
   exact ⟨_,j2,P.1,P.2,e.1,e.2,z0d b, .inr rfl⟩
theorem x9z {a b:List Pt} {S T:List Pt} (ha:Cyc T a) (hb:Cyc S b) (ka:∀ x∈a,z0y (-5000) 5000 x) (kb:∀ x∈b,z0y (-5000) 5000 x) (la:a.length≤60) (lb:b.length≤60) (L4 L5 L6 L7 L8:List (List D)):
  ∃ r,z4o (y5x it0 std) ((0:Int),(0:Int),(0:Int),(0:Int),L4,L5,L6,L7,L8,z0d b,z0d a,z0d a,(a.length:Int),(0:Int),())=some r∧
   match y2p a b with
   |some v=>∃ M4 M5 M6 M7 M8 M9 M10,r= .inr (.inl (v.1,v.2.1,v.2.2,0,M4,M5,M6,M7,M8,M9,M10,()))
   |none=>∃ M4 M5 M6 M7 M8 M9 M10,r= .inl (0,0,0,0,M4,M5,M6,M7,M8,M9,M10,())∨r= .inr (.inr (0,0,0,0,M4,M5,M6,M7,M8,M9,M10,())):=by
 have han:1≤a.length:=by
  match a,ha with
  |q::r,_=>simp
 have sbm:∀ x∈a,z1c x:=fun x hx=>z1x (ka x hx)
 unfold y2p
 by_cases h1:a.length=1
 ·obtain ⟨q,rfl⟩:∃ q,a=[q]:=by
   match a,h1 with
   |[q],_=>exact ⟨q,rfl⟩
  rw [if_pos h1]
  have gx:=z0t (l:=[q]) (i:=0) rfl
  obtain ⟨d1,d2⟩:=z3f (sbm q (by simp)) (sbm q (by simp))
  have q1:(sb q q).1=0:=by simp [sb]
  have q2:(sb q q).2=0:=by simp [sb]
  rw [q1] at d1
  rw [q2] at d2
  have w1:IntKind.i64.wrap 1=1:=by decide
  have t1:(1:Int).tmod 1=0:=by decide
  refine ⟨_,?_,L4,L5,L6,L7,L8,z0d b,z0d [q], .inl rfl⟩
  rw [z0j]
  have:y5x it0 std ((0:Int),(0:Int),(0:Int),(0:Int),L4,L5,L6,L7,L8,z0d b,z0d [q],z0d [q],(([q]:List Pt).length:Int),(0:Int),())=some (.inr (.inl (0,0,0,0,L4,L5,L6,L7,L8,z0d b,z0d [q],()))):=by
   have l1:((0+1:Nat):Int)=1:=rfl
   simp only [y5x,z0l,z0m,z0h,z0s,z0r,z09,z0i,z0c,z0a,z08,z0g,l1,Int.zero_add,w1,t1,gx,d1,d2,Int.toNat_zero,ge_iff_le,Int.le_refl,show (0:Int)<1 by decide,show ¬ (1:Int)=0 by decide,not_false_eq_true]
  rw [this]
 ·have h2:2≤a.length:=by omega
  rw [if_neg h1]
  have key:=z2b (b:=y5x it0 std) a.length (fun i=>((0:Int),(0:Int),(0:Int),(0:Int),L4,L5,L6,L7,L8,z0d b,z0d a,z0d a,(a.length:Int),(i:Int),())) (fun i=>(z29 a b i).isSome)
   (fun i=>match z29 a b i with|some j=> .inr (.inl ((z68 a b i j).1,(z68 a b i j).2.1,(z68 a b i j).2.2,0,L4,L5,L6,L7,L8,z0d b,z0d a,()))|none=> .inl (0,0,0,0,L4,L5,L6,L7,L8,z0d b,z0d a,()))
   (.inr (.inr (0,0,0,0,L4,L5,L6,L7,L8,z0d b,z0d a,()))) (fun i hi=>by
   obtain ⟨u,hu⟩:=z0n hi
   obtain ⟨v,hv⟩:=z0n (l:=a) (i:=(i+1) % a.length) (Nat.mod_lt _ (by omega))
   have gu:=z0t hu
   have gv:=z0t hv
   have hne:=y0u ha h2 hu hv
   have bu:=ka u (List.mem_of_getElem? hu)
   have bv:=ka v (List.mem_of_getElem? hv)
   obtain ⟨d1,d2⟩:=z3f (z1x bv) (z1x bu)
   obtain ⟨m1,m2⟩:=y2o (i:=i) (n:=a.length) (by omega) (by omega)
   have c2:(i:Int)<(a.length:Int):=by omega
   have c3:(i:Int)≥0:=by omega
   have c4:¬ (a.length:Int)=0:=by omega
   have c5:(((i+1) % a.length:Nat):Int)≥0:=by omega
   have c6:(((i+1) % a.length:Nat):Int)<(a.length:Int):=by have:=Nat.mod_lt (i+1) (show 0<a.length by omega); omega
   have hz:(if (sb v u).1=0 then if (sb v u).2=0 then true else false else false)=false:=by
    by_cases q1:(sb v u).1=0
    ·rw [if_pos q1,if_neg (fun e=>hne (Prod.ext q1 e))]
    ·rw [if_neg q1]
   obtain ⟨r,hr1,hr2⟩:=w3g (a:=a) (i:=i) hb kb lb (by rw [z4n hu]; exact bu) (by rw [z4n hu,z4n hv]; exact z8v bv bu) 0 0 0 0 u.1 u.2 (sb v u).1 (sb v u).2 L4 L5 L6 L7 L8 (z0d b) (z0d a) ⟨rfl,rfl,rfl,rfl⟩
   rw [z4n hu,z4n hv] at hr1
   cases hrow:z29 a b i with
   |some j=>
    rw [hrow] at hr2
    obtain ⟨u15,u16,u17,u18,L19,rfl⟩:=hr2
    simp only [y5x,it0_eq,z0l,z0m,z0h,z0s,z0r,z09,z0i,z0c,z0a,z08,z0g,m1,m2,gu,gv,d1,d2,c2,c3,c4,c5,c6,hz,hr1,not_false_eq_true,Option.isSome_some]
   |none=>
    rw [hrow] at hr2
    obtain ⟨u15,u16,u17,u18,L19,rfl|rfl⟩:=hr2
    ·simp only [y5x,it0_eq,z0l,z0m,z0h,z0s,z0r,z09,z0i,z0c,z0a,z08,z0g,m1,m2,gu,gv,d1,d2,c2,c3,c4,c5,c6,hz,hr1,not_false_eq_true,Option.isSome_none]
    ·simp only [y5x,it0_eq,z0l,z0m,z0h,z0s,z0r,z09,z0i,z0c,z0a,z08,z0g,m1,m2,gu,gv,d1,d2,c2,c3,c4,c5,c6,hz,hr1,not_false_eq_true,Option.isSome_none]) (by
   have hn:¬ ((a.length:Int)<(a.length:Int)):=by omega
   simp only [y5x,z0l,z0m,hn])
  have e0:((0:Nat):Int)=0:=rfl
  rw [e0] at key
  rcases key with ⟨i,i1,i2,i3,i4⟩|⟨i1,i2⟩
  ·have e1:∀ k,k<a.length→(List.range a.length).getD k 0=k:=fun k hk=>by simp [List.getD_eq_getElem?_getD,hk]
   have hf:=y1p (l:=List.range a.length) (d:=0) (P:=fun i=>(z29 a b i).isSome) (i:=i) (by simpa using i1) (by rw [e1 i i1]; exact i2) (fun k hk=>by rw [e1 k (by omega)]; exact i3 k hk)
   rw [e1 i i1] at hf
   rw [hf]
   cases hrow:z29 a b i with
   |some j=>
    rw [hrow] at i4
    refine ⟨_,i4,?_⟩
    simp only [hrow,Option.map_some]
    exact ⟨L4,L5,L6,L7,L8,z0d b,z0d a,rfl⟩
   |none=>rw [hrow] at i2; cases i2
  ·have e1:∀ k,k<a.length→(List.range a.length).getD k 0=k:=fun k hk=>by simp [List.getD_eq_getElem?_getD,hk]
   have hf:=y1q (l:=List.range a.length) (d:=0) (P:=fun i=>(z29 a b i).isSome) (fun k hk=>by
    have hk':k<a.length:=by simpa using hk
    rw [e1 k hk']; exact i1 k hk')
   rw [hf]
   exact ⟨_,i2,L4,L5,L6,L7,L8,z0d b,z0d a, .inr rfl⟩
noncomputable def z8r (l:List Pt) (hs:List (List Pt)) (m:List Pt) (ks:List (List Pt)):(Int×Int×Int)×Int:=
 if z33 l hs≠0 then ((0,0,0),z33 l hs) else if z33 m ks≠0 then ((0,0,0),z33 m ks) else
  match y0a (z01 (z04 l hs)) (z01 (z04 m ks)) with
  |some v=>(v,0)
  |none=>((0,0,0),5)
theorem x2m {a b:List Pt} {S T:List Pt} (ha:Cyc T a) (hb:Cyc S b) (ka:∀ x∈a,z0y (-5000) 5000 x) (kb:∀ x∈b,z0y (-5000) 5000 x) (la:a.length≤60) (lb:b.length≤60) (L4 L5 L7 L8:List (List D)):
  z4o (y1w it0 std) ((0:Int),(0:Int),(0:Int),(0:Int),L4,L5,z0d a,L7,L8,z0d b,z0d a,z0d b,z0d b,z0d a,(0:Int),())=match a.find? fun p=>inC b p 1 with
   |some p=>some (.inl (p.1,p.2,1,0,()))
   |none=>match b.find? fun q=>inC a q 1 with
    |some q=>some (.inl (q.1,q.2,1,0,()))
    |none=>some (.inr (0,0,0,0,L4,L5,z0d a,L7,L8,z0d b,())):=by
 have v1:IntKind.i64.wrap ((0:Int)+1)=1:=by decide
 have v2:IntKind.i64.wrap ((1:Int)+1)=2:=by decide
 have q0:(0:Int)<2:=by omega
 have q1:(1:Int)<2:=by omega
 have q2:¬ (2:Int)<2:=by omega
 have q3:¬ (1:Int)=0:=by omega
 have q4:(0:Int)<((2:Nat):Int):=by omega
 have q5:(1:Int)<((2:Nat):Int):=by omega
 have q6:(1:Int)≥0:=by omega
 have q7:(0:Int)≥0:=by omega
 have l1:=y5w hb ka kb la lb 0 0 0 0 0 L4 L5 (z0d a) L7 L8 (z0d b) (z0d a) (z0d b) (z0d b) (z0d a)
 have l2:=y5w ha kb ka lb la 0 0 0 0 1 L4 L5 (z0d a) L7 L8 (z0d b) (z0d a) (z0d b) (z0d b) (z0d a)
 rw [z0j]
 cases h1:a.find? fun p=>inC b p 1 with
 |some p=>
  rw [h1] at l1
  have t0:y1w it0 std ((0:Int),(0:Int),(0:Int),(0:Int),L4,L5,z0d a,L7,L8,z0d b,z0d a,z0d b,z0d b,z0d a,(0:Int),())=some (.inr (.inl (p.1,p.2,1,0,()))):=by
   simp only [y1w,it0_eq,z0l,z0m,z0c,q0,q4,q7,l1]
  rw [t0]
 |none=>
  rw [h1] at l1
  have t0:y1w it0 std ((0:Int),(0:Int),(0:Int),(0:Int),L4,L5,z0d a,L7,L8,z0d b,z0d a,z0d b,z0d b,z0d a,(0:Int),())=some (.inl ((0:Int),(0:Int),(0:Int),(0:Int),L4,L5,z0d a,L7,L8,z0d b,z0d a,z0d b,z0d b,z0d a,(1:Int),())):=by
   simp only [y1w,it0_eq,z0l,z0m,z0c,q0,q4,q7,l1,z0a,v1]
  rw [t0]
  simp only
  rw [z0j]
  cases h2:b.find? fun q=>inC a q 1 with
  |some q=>
   rw [h2] at l2
   have t1:y1w it0 std ((0:Int),(0:Int),(0:Int),(0:Int),L4,L5,z0d a,L7,L8,z0d b,z0d a,z0d b,z0d b,z0d a,(1:Int),())=some (.inr (.inl (q.1,q.2,1,0,()))):=by
    simp only [y1w,it0_eq,z0l,z0m,z0c,q1,q3,q5,q6,l2]
   rw [t1]
  |none=>
   rw [h2] at l2
   have t1:y1w it0 std ((0:Int),(0:Int),(0:Int),(0:Int),L4,L5,z0d a,L7,L8,z0d b,z0d a,z0d b,z0d b,z0d a,(1:Int),())=some (.inl ((0:Int),(0:Int),(0:Int),(0:Int),L4,L5,z0d a,L7,L8,z0d b,z0d a,z0d b,z0d b,z0d a,(2:Int),())):=by
    simp only [y1w,it0_eq,z0l,z0m,z0c,q1,q3,q5,q6,l2,z0a,v2]
   rw [t1]
   simp only
   rw [z0j]
   have t2:y1w it0 std ((0:Int),(0:Int),(0:Int),(0:Int),L4,L5,z0d a,L7,L8,z0d b,z0d a,z0d b,z0d b,z0d a,(2:Int),())=some (.inr (.inr ((0:Int),(0:Int),(0:Int),(0:Int),L4,L5,z0d a,L7,L8,z0d b,()))):=by
    simp only [y1w,z0l,z0m,q2]
   rw [t2]
theorem v5c (l:List Pt) (hs:List (List Pt)) (m:List Pt) (ks:List (List Pt)):
  G37 std (z0d l,z1i hs,z0d m,z1i ks,())=some ((z8r l hs m ks).1.1,(z8r l hs m ks).1.2.1,(z8r l hs m ks).1.2.2,(z8r l hs m ks).2,()):=by
 unfold G37 z8r
 by_cases h:z33 l hs=0
 case neg=>
  have h62:g62 it0 std (z0d l,z1i hs,z0d m,z1i ks,())=_:=y4g h m ks
  simp only [g37,z0l,z0m,h62,h,not_false_eq_true,ne_eq]
 have hf:=z1k.1 h
 by_cases h':z33 m ks=0
 case neg=>
  have h62:g62 it0 std (z0d l,z1i hs,z0d m,z1i ks,())=_:=y4f hf h'
  simp only [g37,z0l,z0m,h62,h,h',not_false_eq_true,ne_eq,not_true]
 have hk:=z1k.1 h'
 have h62:g62 it0 std (z0d l,z1i hs,z0d m,z1i ks,())=_:=x6j hf hk
 rw [if_neg (by simp [h]),if_neg (by simp [h'])]
 have hc:=x2m hf.cyc hk.cyc hf.cbox hk.cbox (z2j hf) (z2j hk) (z0d l) (z1i hs) (z0d m) (z1i ks)
 obtain ⟨r,r1,r2⟩:=x9z hf.cyc hk.cyc hf.cbox hk.cbox (z2j hf) (z2j hk) (z0d l) (z1i hs) (z0d (z01 (z04 l hs))) (z0d m) (z1i ks)
 unfold y0a
 cases h1:(z01 (z04 l hs)).find? fun p=>inC (z01 (z04 m ks)) p 1 with
 |some p=>
  rw [h1] at hc
  simp only [g37,it0_eq,z0l,z0m,h62,hc,not_true]
 |none=>
  rw [h1] at hc
  cases h2:(z01 (z04 m ks)).find? fun q=>inC (z01 (z04 l hs)) q 1 with
  |some q=>
   rw [h2] at hc
   simp only [g37,it0_eq,z0l,z0m,h62,hc,not_true]
  |none=>
   rw [h2] at hc
   cases h3:y2p (z01 (z04 l hs)) (z01 (z04 m ks)) with
   |some v=>
    rw [h3] at r2
    obtain ⟨M4,M5,M6,M7,M8,M9,M10,rfl⟩:=r2
    simp only [g37,it0_eq,z0l,z0m,h62,hc,z0c,r1,not_true]
   |none=>
    rw [h3] at r2
    obtain ⟨M4,M5,M6,M7,M8,M9,M10,rfl|rfl⟩:=r2
    ·simp only [g37,it0_eq,z0l,z0m,h62,hc,z0c,r1,not_true]
    ·simp only [g37,it0_eq,z0l,z0m,h62,hc,z0c,r1,not_true]
end Go.Am
end
section
namespace Go.Am
open M06
theorem w4v {a b:List Pt} {x:Pt} {k:Int} (hk:0<k) (ha:InH a x k) (hb:InH b x k):InH (dif a b) (0,0) 1:=by
 intro d
 obtain ⟨p,hp,h1⟩:=ha d
 obtain ⟨q,hq,h2⟩:=hb (ng d)
 refine ⟨sb p q,z3p.2 ⟨p,hp,q,hq,rfl⟩,?_⟩
 have e:k*crs d (sb (0,0) (ml (sb p q) 1))=crs d (sb x (ml p k))+crs (ng d) (sb x (ml q k)):=by simp only [crs,sb,ml,ng]; grind
 refine Classical.byContradiction fun hc=>?_
 have:=Int.mul_neg_of_pos_of_neg hk (Int.not_le.1 hc)
 omega
theorem w78 {a:List Pt} {x:Pt} {k:Int} (hk:0≤k) (h:InH a x k) (ka:∀ p∈a,z0y (-5000) 5000 p):z0y (-(5000*k)) (5000*k) x:=by
 obtain ⟨p1,q1,h1⟩:=h (0,1)
 obtain ⟨p2,q2,h2⟩:=h (0, -1)
 obtain ⟨p3,q3,h3⟩:=h (1,0)
 obtain ⟨p4,q4,h4⟩:=h (-1,0)
 have b1:=ka p1 q1; have b2:=ka p2 q2; have b3:=ka p3 q3; have b4:=ka p4 q4
 simp only [crs,sb,ml,z0y] at*
 have m1:=Int.mul_le_mul_of_nonneg_right b1.2.1 hk
 have m2:=Int.mul_le_mul_of_nonneg_right b2.1 hk
 have m3:=Int.mul_le_mul_of_nonneg_right b3.2.2.1 hk
 have m4:=Int.mul_le_mul_of_nonneg_right b4.2.2.2 hk
 omega
theorem x5h {l:List Pt} {hs:List (List Pt)} (hf:z5k l hs) {m:List Pt} {ks:List (List Pt)} (hk:z5k m ks) {v:Int×Int×Int} (h:y0a (z01 (z04 l hs)) (z01 (z04 m ks))=some v):
  1≤v.2.2∧v.2.2≤268435456∧Big (v.1,v.2.1)∧inC (z01 (z04 l hs)) (v.1,v.2.1) v.2.2=true∧inC (z01 (z04 m ks)) (v.1,v.2.1) v.2.2=true:=by
 have ha:=z2r hf.cyc
 have hb:=z2r hk.cyc
 have ka:=hf.cbox
 have kb:=hk.cbox
 generalize z01 (z04 l hs)=a at*
 generalize z01 (z04 m ks)=b at*
 have pt:∀ {S:List Pt} {p:Pt},p∈S→InH S p 1:=fun h d=>⟨_,h,by simp [crs,sb,ml]⟩
 unfold y0a at h
 cases h1:a.find? fun p=>inC b p 1 with
 |some p=>
  rw [h1] at h
  cases h
  have hp:=List.mem_of_find?_eq_some h1
  have hi:=List.find?_some h1
  have:=ka p hp
  refine ⟨by simp,by simp,by simp only [Big,z0y] at*; omega,?_,hi⟩
  exact (z3q ha (k:=1) (by omega)).2 (pt hp)
 |none=>
  rw [h1] at h
  cases h2:b.find? fun q=>inC a q 1 with
  |some q=>
   rw [h2] at h
   cases h
   have hp:=List.mem_of_find?_eq_some h2
   have hi:=List.find?_some h2
   have:=kb q hp
   refine ⟨by simp,by simp,by simp only [Big,z0y] at*; omega,hi,?_⟩
   exact (z3q hb (k:=1) (by omega)).2 (pt hp)
  |none=>
   rw [h2] at h
   simp only at h
   unfold y2p at h
   by_cases hl:a.length=1
   ·rw [if_pos hl] at h; cases h
   rw [if_neg hl] at h
   cases h3:(List.range a.length).find? fun i=>(z29 a b i).isSome with
   |none=>rw [h3] at h; cases h
   |some i=>
    rw [h3] at h
    simp only at h
    cases h4:z29 a b i with
    |none=>rw [h4] at h; cases h
    |some j=>
     rw [h4] at h
     simp only [Option.map_some,Option.some.injEq] at h
     subst h
     have hi:i<a.length:=by simpa using List.mem_of_find?_eq_some h3
     unfold z29 at h4
     by_cases hlb:b.length=1
     ·rw [if_pos hlb] at h4; cases h4
     rw [if_neg hlb] at h4
     have hj:j<b.length:=by simpa using List.mem_of_find?_eq_some h4
     have hm:=List.find?_some h4
     unfold x1p at hm
     have hm:=of_decide_eq_true hm
     unfold z68
     obtain ⟨P,hP⟩:=z0n hi
     obtain ⟨P',hP'⟩:=z0n (l:=a) (i:=(i+1) % a.length) (Nat.mod_lt _ (by omega))
     obtain ⟨Q,hQ⟩:=z0n hj
     obtain ⟨Q',hQ'⟩:=z0n (l:=b) (i:=(j+1) % b.length) (Nat.mod_lt _ (by omega))
     rw [z4n hP,z4n hP',z4n hQ,z4n hQ'] at hm⊢
     have mP:=List.mem_of_getElem? hP; have mP':=List.mem_of_getElem? hP'
     have mQ:=List.mem_of_getElem? hQ; have mQ':=List.mem_of_getElem? hQ'
     have hσ:sgn (sb P' P) (sb Q' Q)=1∨sgn (sb P' P) (sb Q' Q)= -1:=by unfold sgn; split<;>omega
     have hc:0<sgn (sb P' P) (sb Q' Q)*crs (sb P' P) (sb Q' Q)∧0≤sgn (sb P' P) (sb Q' Q)*crs (sb Q P) (sb Q' Q)∧sgn (sb P' P) (sb Q' Q)*crs (sb Q P) (sb Q' Q)≤sgn (sb P' P) (sb Q' Q)*crs (sb P' P) (sb Q' Q)∧
       0≤sgn (sb P' P) (sb Q' Q)*crs (sb Q P) (sb P' P)∧sgn (sb P' P) (sb Q' Q)*crs (sb Q P) (sb P' P)≤sgn (sb P' P) (sb Q' Q)*crs (sb P' P) (sb Q' Q):=by
      unfold sgn
      unfold z3y at hm
      split
      ·rename_i hn
       simp only [Int.neg_mul,Int.one_mul]
       omega
      ·rename_i hn
       simp only [Int.one_mul]
       omega
     obtain ⟨c1,c2,c3,c4,c5⟩:=hc
     have hin:=w7u ha hb (s:=(P,P')) (t:=(Q,Q')) mP mP' mQ mQ' hσ c1 c2 c3 c4 c5
     simp only at hin
     have hN:z37 P (sb P' P) Q (sb Q' Q)=ad (ml P (sgn (sb P' P) (sb Q' Q)*crs (sb P' P) (sb Q' Q))) (ml (sb P' P) (sgn (sb P' P) (sb Q' Q)*crs (sb Q P) (sb Q' Q))):=rfl
     rw [←hN] at hin
     have hG:z6l P (sb P' P) Q (sb Q' Q)=w31 [(z37 P (sb P' P) Q (sb Q' Q)).1,(z37 P (sb P' P) Q (sb Q' Q)).2,sgn (sb P' P) (sb Q' Q)*crs (sb P' P) (sb Q' Q)]:=rfl
     have hV:y1g P (sb P' P) Q (sb Q' Q)=((z37 P (sb P' P) Q (sb Q' Q)).1.tdiv (z6l P (sb P' P) Q (sb Q' Q)),(z37 P (sb P' P) Q (sb Q' Q)).2.tdiv (z6l P (sb P' P) Q (sb Q' Q)),(sgn (sb P' P) (sb Q' Q)*crs (sb P' P) (sb Q' Q)).tdiv (z6l P (sb P' P) Q (sb Q' Q))):=rfl
     rw [hV]
     have hdl:sgn (sb P' P) (sb Q' Q)*crs (sb P' P) (sb Q' Q)≤200000000:=by
      have:=y1v (z8v (ka P' mP') (ka P mP)) (z8v (kb Q' mQ') (kb Q mQ))
      rcases hσ with h|h<;>rw [h]<;>omega
     generalize z37 P (sb P' P) Q (sb Q' Q)=N at*
     generalize sgn (sb P' P) (sb Q' Q)*crs (sb P' P) (sb Q' Q)=D at*
     generalize z6l P (sb P' P) Q (sb Q' Q)=g at*
     have hdv:=y84 [N.1,N.2,D] 0
     have hgd:∀ x∈[N.1,N.2,D],(g:Int) ∣ x:=fun x hx=>by rw [hG]; exact hdv.2 x hx
     have gpos:0<g:=by rw [hG]; exact x5s (x:=D) (by simp) (by omega)
     have t1:=Int.tdiv_mul_cancel (hgd N.1 (by simp))
     have t2:=Int.tdiv_mul_cancel (hgd N.2 (by simp))
     have t3:=Int.tdiv_mul_cancel (hgd D (by simp))
     simp only
     generalize N.1.tdiv g=X at*
     generalize N.2.tdiv g=Y at*
     generalize D.tdiv g=d at*
     have hNe:N=ml (X,Y) g:=Prod.ext t1.symm t2.symm
     have hDe:D=(g:Int)*d:=by rw [Int.mul_comm]; exact t3.symm
     have gp:(0:Int)<g:=by omega
     have hdpos:0<d:=by
      refine Classical.byContradiction fun hc=>?_
      have:=Int.mul_nonneg (Int.le_of_lt gp) (show 0≤ -d by omega)
      rw [Int.mul_neg] at this; omega
     have hdD:d≤D:=by
      have:=Int.mul_le_mul_of_nonneg_right (show (1:Int)≤g by omega) (Int.le_of_lt hdpos)
      omega
     rw [hNe,hDe] at hin
     have i1:=(z84 gp).1 hin.1
     have i2:=(z84 gp).1 hin.2
     have bx:=w78 (Int.le_of_lt hdpos) i1 ka
     exact ⟨by omega,by omega,by simp only [Big,z0y] at*; omega,(z3q ha hdpos).2 i1,(z3q hb hdpos).2 i2⟩
theorem x3v {l:List Pt} {hs:List (List Pt)} (hf:z5k l hs) {m:List Pt} {ks:List (List Pt)} (hk:z5k m ks):(y0a (z01 (z04 l hs)) (z01 (z04 m ks))).isSome=z6j l hs m ks:=by
 have hne:=x53 (z4g hf.allNe) (z4g hk.allNe)
 have hD:=z28 hne
 have hin:z6j l hs m ks=true↔InH (dif (z01 (z04 l hs)) (z01 (z04 m ks))) (0,0) 1:=(z3q hD (by omega)).trans (y37 hD (by omega)).symm
 have ha:=z2r hf.cyc
 have hb:=z2r hk.cyc
 cases hv:y0a (z01 (z04 l hs)) (z01 (z04 m ks)) with
 |some v=>
  obtain ⟨h1,h2,h3,h4,h5⟩:=x5h hf hk hv
  symm
  exact hin.2 (w4v (by omega) ((z3q ha (by omega)).1 h4) ((z3q hb (by omega)).1 h5))
 |none=>
  symm
  rw [Option.isSome_none,Bool.eq_false_iff]
  intro hc
  obtain ⟨x,k,k0,k1,k2⟩:=v4d ha hb (hin.1 hc)
  have hm:=v62 ha hb k0 k1 k2
  unfold y0a at hv
  generalize z01 (z04 l hs)=a at*
  generalize z01 (z04 m ks)=b at*
  cases h1:a.find? fun p=>inC b p 1 with
  |some p=>rw [h1] at hv; cases hv
  |none=>
   rw [h1] at hv
   cases h2:b.find? fun q=>inC a q 1 with
   |some q=>rw [h2] at hv; cases hv
   |none=>
    rw [h2] at hv
    simp only at hv
    rcases hm with ⟨p,hp,hi⟩|⟨q,hq,hi⟩|⟨la,lb,s,hs,t,ht,hm⟩
    ·have:=List.find?_eq_none.1 h1 p hp
     exact this ((z3q hb (by omega)).2 hi)
    ·have:=List.find?_eq_none.1 h2 q hq
     exact this ((z3q ha (by omega)).2 hi)
    ·obtain ⟨i,hi,rfl⟩:=List.mem_map.1 hs
     obtain ⟨j,hj,rfl⟩:=List.mem_map.1 ht
     unfold y2p at hv
     rw [if_neg (by omega)] at hv
     have hrow:(z29 a b i).isSome=true:=by
      unfold z29
      rw [if_neg (by omega)]
      cases h4:(List.range b.length).find? fun j=>x1p a b i j with
      |some j'=>rfl
      |none=>
       have:=List.find?_eq_none.1 h4 j hj
       exact absurd (show x1p a b i j=true from decide_eq_true (show z3y _ _ _ _ from hm)) this
     cases h3:(List.range a.length).find? fun i=>(z29 a b i).isSome with
     |none=>
      have:=List.find?_eq_none.1 h3 i hi
      exact this hrow
     |some i'=>
      rw [h3] at hv
      have:=List.find?_some h3
      simp only at hv
      cases h5:z29 a b i' with
      |none=>rw [h5] at this; cases this
      |some j'=>rw [h5] at hv; cases hv
theorem w7x {l:List Pt} {hs:List (List Pt)} (hf:z5k l hs) {m:List Pt} {ks:List (List Pt)} (hk:z5k m ks) (h:(z3v (z01 (z04 l hs)) (z01 (z04 m ks))).2=true):
  y1m (z3v (z01 (z04 l hs)) (z01 (z04 m ks))).1.1 (z3v (z01 (z04 l hs)) (z01 (z04 m ks))).1.2.1 (z3v (z01 (z04 l hs)) (z01 (z04 m ks))).1.2.2∧
  okL (z01 (z04 l hs)) (z01 (z04 m ks)) (z3v (z01 (z04 l hs)) (z01 (z04 m ks))).1.1 (z3v (z01 (z04 l hs)) (z01 (z04 m ks))).1.2.1 (z3v (z01 (z04 l hs)) (z01 (z04 m ks))).1.2.2∧
  z0y (-10000) 10000 ((z3v (z01 (z04 l hs)) (z01 (z04 m ks))).1.1,(z3v (z01 (z04 l hs)) (z01 (z04 m ks))).1.2.1):=by
 have ane:=z4g hf.allNe
 have bne:=z4g hk.allNe
 have ka:=hf.cbox
 have kb:=hk.cbox
 have kax:=x8i hf
 generalize z01 (z04 l hs)=a at*
 generalize z01 (z04 m ks)=b at*
 unfold z3v at*
 cases hfd:(z5a a b).find? fun w=>decide (y0z a b w) with
 |none=>rw [hfd] at h; cases h
 |some w=>
  simp only
  have hw:=List.mem_of_find?_eq_some hfd
  have hp0:=List.find?_some hfd
  have hp:y0z a b w:=of_decide_eq_true hp0
  have hbx:=y4p ka kb w hw
  have hsm:z1c w:=by simp only [z0y,z1c] at*; omega
  have hmx:=x3r ane hsm kax
  obtain ⟨m1,p,hpa,m2⟩:=z9o ane w
  have hw2:(w.1,w.2)=w:=rfl
  refine ⟨⟨fun e=>?_,?_⟩,⟨fun x hx=>m1 x hx,fun q hq=>?_⟩,hbx⟩
  ·obtain ⟨q,hq⟩:∃ q,q∈b:=by
    match b,bne with
    |q::r,_=>exact ⟨q,by simp⟩
   have:=hp p hpa q hq
   simp only [dt,e.1,e.2] at this
   omega
  ·simp only [z0y] at hbx; omega
  ·have:=hp p hpa q hq
   rw [m2]; exact this
theorem w3a {l:List Pt} {hs:List (List Pt)} (hf:z5k l hs) {m:List Pt} {ks:List (List Pt)} (hk:z5k m ks):
  y2l l hs m ks=if z6j l hs m ks=true then ((0,0,0),21) else ((z3v (z01 (z04 l hs)) (z01 (z04 m ks))).1,0):=by
 unfold y2l
 rw [if_neg (by simp [z1k.2 hf]),if_neg (by simp [z1k.2 hk]),y2v hf hk]
 cases z6j l hs m ks<;>rfl
theorem x90 {l:List Pt} {hs:List (List Pt)} (hf:z5k l hs) {m:List Pt} {ks:List (List Pt)} (hk:z5k m ks):
  (z6j l hs m ks=true∧∃ v,y0a (z01 (z04 l hs)) (z01 (z04 m ks))=some v∧z8r l hs m ks=(v,0))∨(z6j l hs m ks=false∧z8r l hs m ks=((0,0,0),5)):=by
 have h:=x3v hf hk
 unfold z8r
 rw [if_neg (by simp [z1k.2 hf]),if_neg (by simp [z1k.2 hk])]
 cases hv:y0a (z01 (z04 l hs)) (z01 (z04 m ks)) with
 |some v=>rw [hv] at h; exact .inl ⟨h.symm,v,rfl,rfl⟩
 |none=>rw [hv] at h; exact .inr ⟨h.symm,rfl⟩
theorem w9s {l:List Pt} {hs:List (List Pt)} (hf:z5k l hs) {m:List Pt} {ks:List (List Pt)} (hk:z5k m ks) {v:Int×Int×Int} (h:y0a (z01 (z04 l hs)) (z01 (z04 m ks))=some v):x8j l hs m ks (v.1,v.2.1) v.2.2=0:=by
 obtain ⟨h1,h2,h3,h4,h5⟩:=x5h hf hk h
 unfold x8j
 rw [if_neg (by simp [z1k.2 hf]),if_neg (by simp [z1k.2 hk]),if_neg (by simp only [Classical.not_not]; exact ⟨h1,h2,h3⟩),if_pos ⟨h4,h5⟩]
theorem w4t {l:List Pt} {hs:List (List Pt)} (hf:z5k l hs) {m:List Pt} {ks:List (List Pt)} (hk:z5k m ks) (h:z6j l hs m ks=false):
  y7v l hs m ks (z3v (z01 (z04 l hs)) (z01 (z04 m ks))).1.1 (z3v (z01 (z04 l hs)) (z01 (z04 m ks))).1.2.1 (z3v (z01 (z04 l hs)) (z01 (z04 m ks))).1.2.2=0:=by
 obtain ⟨h1,h2,_⟩:=w7x hf hk (by rw [y2v hf hk,h]; rfl)
 unfold y7v
 rw [if_neg (by simp [z1k.2 hf]),if_neg (by simp [z1k.2 hk]),if_neg (by simp only [Classical.not_not]; exact h1),if_pos h2]
end Go.Am
end
section
namespace Go.Am
open M06
theorem v5a (l:List Pt) (hs:List (List Pt)) (m:List Pt) (ks:List (List Pt)) (p:Pt) (den:Int):
  G40 std (z0d l,z1i hs,z0d m,z1i ks,p.1,p.2,den,())=some (x8j l hs m ks p den,()):=by
 unfold G40 x8j
 by_cases h:z33 l hs=0
 case neg=>
  have h62:g62 it0 std (z0d l,z1i hs,z0d m,z1i ks,())=_:=y4g h m ks
  simp only [g40,z0l,z0m,h62,h,not_false_eq_true,ne_eq]
 have hf:=z1k.1 h
 by_cases h':z33 m ks=0
 case neg=>
  have h62:g62 it0 std (z0d l,z1i hs,z0d m,z1i ks,())=_:=y4f hf h'
  simp only [g40,z0l,z0m,h62,h,h',not_false_eq_true,ne_eq,not_true]
 have hk:=z1k.1 h'
 have h62:g62 it0 std (z0d l,z1i hs,z0d m,z1i ks,())=_:=x6j hf hk
 by_cases d1:den<1
 ·have:¬ (1≤den∧den≤268435456∧Big p):=fun h=>by omega
  simp only [g40,z0l,z0m,h62,h,h',d1,this,not_false_eq_true,ne_eq,not_true]
 by_cases d2:den>268435456
 ·have:¬ (1≤den∧den≤268435456∧Big p):=fun h=>by omega
  simp only [g40,z0l,z0m,h62,h,h',d1,d2,this,not_false_eq_true,ne_eq,not_true]
 have h53:=w9z p
 by_cases hb:Big p
 case neg=>
  have:¬ (1≤den∧den≤268435456∧Big p):=fun h=>hb h.2.2
  simp only [g40,z0l,z0m,h62,h,h',d1,d2,this,List.drop_zero,List.take_succ_cons,List.take_zero,y8v,y32,h53,hb,Nat.le_refl,z0c,not_false_eq_true,ne_eq,not_true,and_false]
 have hden:1≤den∧den≤268435456∧Big p:=⟨by omega,by omega,hb⟩
 have i1:=x6l hf hb (den:=den) (by omega) (by omega)
 have i2:=x6l hk hb (den:=den) (by omega) (by omega)
 by_cases k1:inC (z01 (z04 l hs)) p den=true
 ·by_cases k2:inC (z01 (z04 m ks)) p den=true
  ·simp only [g40,z0l,z0m,h62,h,h',d1,d2,hden,List.drop_zero,List.take_succ_cons,List.take_zero,y8v,y32,h53,hb,Nat.le_refl,z0c,i1,i2,k1,k2,not_false_eq_true,ne_eq,not_true,and_self]
  ·have k2':inC (z01 (z04 m ks)) p den=false:=by simpa using k2
   simp only [g40,z0l,z0m,h62,h,h',d1,d2,hden,List.drop_zero,List.take_succ_cons,List.take_zero,y8v,y32,h53,hb,Nat.le_refl,z0c,i1,i2,k1,k2',not_false_eq_true,ne_eq,not_true,and_self,and_false]
 ·have k1':inC (z01 (z04 l hs)) p den=false:=by simpa using k1
  simp only [g40,z0l,z0m,h62,h,h',d1,d2,hden,List.drop_zero,List.take_succ_cons,List.take_zero,y8v,y32,h53,hb,Nat.le_refl,z0c,i1,i2,k1',not_false_eq_true,ne_eq,not_true,false_and,and_self,Bool.false_eq_true]
end Go.Am
end
section
namespace Go.Am
open M06
theorem InH.trans {S T:List Pt} {p:Pt} {k:Int} (hk:0≤k) (h:InH S p k) (hs:∀ x∈S,InH T x 1):InH T p k:=by
 intro d
 obtain ⟨x,hx,h0⟩:=h d
 obtain ⟨y,hy,h1⟩:=hs x hx d
 refine ⟨y,hy,?_⟩
 rw [x9d p x y k d]
 have e:crs d (sb x (ml y 1))=crs d (sb x y):=by simp [ml]
 rw [e] at h1
 have:=Int.mul_nonneg hk h1
 omega
end Go.Am
end
noncomputable section
namespace Go.Am
def ctr9:Ctr:=
 ⟨9,[.agg [.list 2, .list 1], .agg [.list 2, .list 1], .agg [.int .i64, .int .i64, .int .i64], .agg [.int .i64, .int .i64, .int .i64]],[],[(.ret,⟨[(0, .bool)],[],1⟩)]⟩
def la9:List LA:=
 []
def ja9:List JA:=
 [⟨9,[false,false,true],0,[(AX.normal,⟨[(4, .bptr 0 0),(5, .bptr 1 0),(6, .bptr 2 0),(7, .bptr 3 0),(18, .bool)],[.box [.list 2, .list 1], .box [.list 2, .list 1], .box [.int .i64, .int .i64, .int .i64], .box [.int .i64, .int .i64, .int .i64]],98⟩)]⟩,
 ⟨9,[false,false,true,false,true,true,true,true,true,true,true],0,[(AX.normal,⟨[(8, .bool)],[],98⟩)]⟩,
 ⟨9,[false,false,true,true,true,true,true],0,[(AX.normal,⟨[(4, .bptr 0 0),(5, .bptr 1 0),(9, .bptr 2 0),(10, .int .i64),(11, .bptr 3 0),(12, .int .i64),(63, .bool)],[.box [.list 2, .list 1], .box [.list 2, .list 1], .box [.int .i64, .int .i64, .int .i64], .box [.int .i64, .int .i64, .int .i64]],98⟩)]⟩,
 ⟨9,[false,false,true,true,true,true,true,true],0,[(AX.normal,⟨[(4, .bptr 0 0),(5, .bptr 1 0),(11, .bptr 2 0),(12, .int .i64),(81, .bool)],[.box [.list 2, .list 1], .box [.list 2, .list 1], .box [.int .i64, .int .i64, .int .i64]],98⟩)]⟩,
 ⟨9,[false,true,true,true,true,true,true,true,true],0,[(AX.normal,⟨[(8, .bool)],[],98⟩)]⟩]
def gam9:List CF:=
 [⟨v3y,G42⟩,⟨v3z,G41⟩,⟨w9b,G37⟩,⟨w9d,G32⟩,⟨w9a,G38⟩,⟨v30,G40⟩,⟨w9c,G36⟩,⟨w89,G39⟩,⟨v4a,G15⟩,⟨v4b,G14⟩]
def an9:Anns:=
 ⟨gam9,ja9,[]⟩
def G9:(p:Prim)→(LD×(LD×(LD×(LD×T50))))→Option T2:=
 fun p x=>
 opt.bnd ((LD×(LD×(LD×(LD×T53))))) _ (
 opt.run ((LD×(LD×(LD×(LD×T53))))) (
 opt.bnd T2 _ (G14 p (x.1,(x.2.1,()))) fun a=>
 opt.ask _ a.1 (
 opt.ret _ (x.1,(x.2.1,(x.2.2.1,(x.2.2.2.1,(x.2.2.2.2.1,(x.2.2.2.2.2.1,(x.2.2.2.2.2.2.1,(x.2.2.2.2.2.2.2.1,(x.2.2.2.2.2.2.2.2.1,(x.2.2.2.2.2.2.2.2.2.1,(Bool.true,())))))))))))) (
 opt.bnd T2 _ (G14 p (x.2.2.1,(x.2.2.2.1,()))) fun b=>
 opt.ret _ (x.1,(x.2.1,(x.2.2.1,(x.2.2.2.1,(x.2.2.2.2.1,(x.2.2.2.2.2.1,(x.2.2.2.2.2.2.1,(x.2.2.2.2.2.2.2.1,(x.2.2.2.2.2.2.2.2.1,(x.2.2.2.2.2.2.2.2.2.1,(b.1,())))))))))))))) fun c=>
 opt.ask _ c.2.2.2.2.2.2.2.2.2.2.1 (
 opt.bnd T2 _ (G15 p ()) fun d=>
 opt.ret _ (d.1,())) (
 opt.bnd T0 _ (G39 p (c.1,(c.2.1,(c.2.2.1,(c.2.2.2.1,(c.2.2.2.2.1,(c.2.2.2.2.2.1,(c.2.2.2.2.2.2.1,())))))))) fun e=>
 opt.bnd T0 _ (G36 p (c.1,(c.2.1,(c.2.2.1,(c.2.2.2.1,(c.2.2.2.2.1,(c.2.2.2.2.2.1,(c.2.2.2.2.2.2.1,())))))))) fun f=>
 opt.ask _ (p.cmp .neq e.1 f.1) (
 opt.ret _ (Bool.false,())) (
 opt.bnd T0 _ (G40 p (c.1,(c.2.1,(c.2.2.1,(c.2.2.2.1,(c.2.2.2.2.2.2.2.1,(c.2.2.2.2.2.2.2.2.1,(c.2.2.2.2.2.2.2.2.2.1,())))))))) fun g=>
 opt.bnd T0 _ (G38 p (c.1,(c.2.1,(c.2.2.1,(c.2.2.2.1,(c.2.2.2.2.2.2.2.1,(c.2.2.2.2.2.2.2.2.1,(c.2.2.2.2.2.2.2.2.2.1,())))))))) fun h=>
 opt.ask _ (p.cmp .neq g.1 h.1) (
 opt.ret _ (Bool.false,())) (
 opt.bnd T8 _ (G32 p (c.1,(c.2.1,(c.2.2.1,(c.2.2.2.1,()))))) fun i=>
 opt.bnd T8 _ (G37 p (c.1,(c.2.1,(c.2.2.1,(c.2.2.2.1,()))))) fun j=>
 opt.bnd ((LD×(LD×(LD×(LD×T88))))) _ (
 opt.run ((LD×(LD×(LD×(LD×T88))))) (
 opt.bnd T0 _ (G41 p (c.1,(c.2.1,(c.2.2.1,(c.2.2.2.1,()))))) fun k=>
 opt.ask _ (p.cmp .neq i.2.2.2.1 k.1) (
 opt.ret _ (c.1,(c.2.1,(c.2.2.1,(c.2.2.2.1,(i.1,(i.2.1,(i.2.2.1,(j.1,(j.2.1,(j.2.2.1,(i.2.2.2.1,(j.2.2.2.1,(Bool.true,())))))))))))))) (
 opt.bnd T0 _ (G42 p (c.1,(c.2.1,(c.2.2.1,(c.2.2.2.1,()))))) fun l=>
 opt.ret _ (c.1,(c.2.1,(c.2.2.1,(c.2.2.2.1,(i.1,(i.2.1,(i.2.2.1,(j.1,(j.2.1,(j.2.2.1,(i.2.2.2.1,(j.2.2.2.1,((p.cmp .neq j.2.2.2.1 l.1),())))))))))))))))) fun m=>
 opt.ask _ m.2.2.2.2.2.2.2.2.2.2.2.2.1 (
 opt.ret _ (Bool.false,())) (
 opt.bnd ((LD×(LD×(LD×(LD×T89))))) _ (
 opt.run ((LD×(LD×(LD×(LD×T89))))) (
 opt.ask _ (p.cmp .eql m.2.2.2.2.2.2.2.2.2.2.1 (0:Int)) (
 opt.bnd T0 _ (G36 p (m.1,(m.2.1,(m.2.2.1,(m.2.2.2.1,(m.2.2.2.2.1,(m.2.2.2.2.2.1,(m.2.2.2.2.2.2.1,())))))))) fun n=>
 opt.ask _ (p.cmp .neq n.1 (0:Int)) (
 opt.ret _ (m.1,(m.2.1,(m.2.2.1,(m.2.2.2.1,(m.2.2.2.2.2.2.2.1,(m.2.2.2.2.2.2.2.2.1,(m.2.2.2.2.2.2.2.2.2.1,(m.2.2.2.2.2.2.2.2.2.2.2.1,(Bool.true,())))))))))) (
 opt.ask _ (p.cmp .neq m.2.2.2.2.2.2.2.2.2.2.1 (0:Int)) (
 opt.ret _ (m.1,(m.2.1,(m.2.2.1,(m.2.2.2.1,(m.2.2.2.2.2.2.2.1,(m.2.2.2.2.2.2.2.2.1,(m.2.2.2.2.2.2.2.2.2.1,(m.2.2.2.2.2.2.2.2.2.2.2.1,((bif (bif (p.cmp .eql m.2.2.2.2.1 (0:Int)) then (bif (p.cmp .eql m.2.2.2.2.2.1 (0:Int)) then (bif (p.cmp .eql m.2.2.2.2.2.2.1 (0:Int)) then Bool.true else Bool.false) else Bool.false) else Bool.false) then Bool.false else Bool.true),())))))))))) (
 opt.ret _ (m.1,(m.2.1,(m.2.2.1,(m.2.2.2.1,(m.2.2.2.2.2.2.2.1,(m.2.2.2.2.2.2.2.2.1,(m.2.2.2.2.2.2.2.2.2.1,(m.2.2.2.2.2.2.2.2.2.2.2.1,(Bool.false,())))))))))))) (
 opt.ask _ (p.cmp .neq m.2.2.2.2.2.2.2.2.2.2.1 (0:Int)) (
 opt.ret _ (m.1,(m.2.1,(m.2.2.1,(m.2.2.2.1,(m.2.2.2.2.2.2.2.1,(m.2.2.2.2.2.2.2.2.1,(m.2.2.2.2.2.2.2.2.2.1,(m.2.2.2.2.2.2.2.2.2.2.2.1,((bif (bif (p.cmp .eql m.2.2.2.2.1 (0:Int)) then (bif (p.cmp .eql m.2.2.2.2.2.1 (0:Int)) then (bif (p.cmp .eql m.2.2.2.2.2.2.1 (0:Int)) then Bool.true else Bool.false) else Bool.false) else Bool.false) then Bool.false else Bool.true),())))))))))) (
 opt.ret _ (m.1,(m.2.1,(m.2.2.1,(m.2.2.2.1,(m.2.2.2.2.2.2.2.1,(m.2.2.2.2.2.2.2.2.1,(m.2.2.2.2.2.2.2.2.2.1,(m.2.2.2.2.2.2.2.2.2.2.2.1,(Bool.false,()))))))))))))) fun o=>
 opt.ask _ o.2.2.2.2.2.2.2.2.1 (
 opt.ret _ (Bool.false,())) (
 opt.ask _ (p.cmp .eql o.2.2.2.2.2.2.2.1 (0:Int)) (
 opt.bnd T2 _ (
 opt.run T2 (
 opt.bnd T0 _ (G38 p (o.1,(o.2.1,(o.2.2.1,(o.2.2.2.1,(o.2.2.2.2.1,(o.2.2.2.2.2.1,(o.2.2.2.2.2.2.1,())))))))) fun q=>
 opt.ask _ (p.cmp .eql q.1 (0:Int)) (
 opt.bnd T2 _ (G15 p ()) fun r=>
 opt.ret _ (r.1,())) (
 opt.ret _ (Bool.false,())))) fun t=>
 opt.ret _ (t.1,())) (
 opt.bnd T2 _ (
 opt.run T2 (
 opt.ask _ (bif (p.cmp .eql o.2.2.2.2.1 (0:Int)) then (bif (p.cmp .eql o.2.2.2.2.2.1 (0:Int)) then (bif (p.cmp .eql o.2.2.2.2.2.2.1 (0:Int)) then Bool.true else Bool.false) else Bool.false) else Bool.false) (
 opt.bnd T2 _ (G15 p ()) fun u=>
 opt.ret _ (u.1,())) (
 opt.ret _ (Bool.false,())))) fun v=>
 opt.ret _ (v.1,())))))))
theorem ok9:CtrOk PG ctr9 (G9 std):=okF (a:=an9) (l:=la9) (gC ok42 (gC ok41 (gC u0b (gC u0d (gC u0a (gC ok40 (gC u0c (gC v99 (gC ok15 (gC ok14 (gN))))))))))) (by kernel_rfl) fun _ _=>by kernel_rfl
end Go.Am
end
section
namespace Go.Am
open M06
theorem v9t (l:List Pt) (hs:List (List Pt)) (m:List Pt) (ks:List (List Pt)) (A B C:Int) (wA:(Lit.int IntKind.i64 A).wf=true) (wB:(Lit.int IntKind.i64 B).wf=true) (wC:(Lit.int IntKind.i64 C).wf=true)
  (x y z:Int) (wx:(Lit.int IntKind.i64 x).wf=true) (wy':(Lit.int IntKind.i64 y).wf=true) (wz:(Lit.int IntKind.i64 z).wf=true):
  G9 std (z0d l,z1i hs,z0d m,z1i ks,A,B,C,x,y,z,())=some (true,()):=by
 unfold G9
 by_cases g1:y1l l hs
 ·simp only [z0l,z0m,y77,g1,y76]
 by_cases g2:y1l m ks
 ·simp only [z0l,z0m,y77,g1,g2,y76]
 have h39:=v5b l hs m ks (y5l wA) (y5l wB) (y5l wC)
 have h36:=w6q l hs m ks A B C
 have h40:=v5a l hs m ks (x,y) z
 have h38:=w6p l hs m ks (x,y) z
 have h32:=v5d l hs m ks
 have h37:=v5c l hs m ks
 have h41:=v49 l hs m ks
 have h42:=v48 l hs m ks
 simp only at h40 h38
 have z0:(if (0:Int)=0 then if (0:Int)=0 then if (0:Int)=0 then true else false else false else false)=true:=by simp
 by_cases hc:z33 l hs=0
 case neg=>
  have p1:y2l l hs m ks=((0,0,0),z33 l hs):=by unfold y2l; rw [if_pos hc]
  have p2:z8r l hs m ks=((0,0,0),z33 l hs):=by unfold z8r; rw [if_pos hc]
  rw [p1] at h32 h41
  rw [p2] at h37
  rw [if_pos hc] at h42
  simp only at h32 h41 h37
  simp only [z0l,z0m,y77,g1,g2,y76,h39,h36,h40,h38,h32,h37,h41,h42,hc,not_true,not_false_eq_true,z0]
 have hf:=z1k.1 hc
 by_cases hc':z33 m ks=0
 case neg=>
  have p1:y2l l hs m ks=((0,0,0),z33 m ks):=by unfold y2l; rw [if_neg (by simp [hc]),if_pos hc']
  have p2:z8r l hs m ks=((0,0,0),z33 m ks):=by unfold z8r; rw [if_neg (by simp [hc]),if_pos hc']
  rw [p1] at h32 h41
  rw [p2] at h37
  rw [if_neg (by simp [hc]),if_pos hc'] at h42
  simp only at h32 h41 h37
  simp only [z0l,z0m,y77,g1,g2,y76,h39,h36,h40,h38,h32,h37,h41,h42,hc',not_true,not_false_eq_true,z0]
 have hk:=z1k.1 hc'
 rw [if_neg (by simp [hc]),if_neg (by simp [hc'])] at h42
 have pv:=w3a hf hk
 rcases x90 hf hk with ⟨hcl,v,hv,lv⟩|⟨hcl,lv⟩
 ·rw [hcl,if_pos rfl] at pv
  rw [hcl,if_pos rfl] at h42
  rw [pv] at h32 h41
  rw [lv] at h37
  simp only at h32 h41 h37
  have hb:=w6p l hs m ks (v.1,v.2.1) v.2.2
  rw [w9s hf hk hv] at hb
  simp only at hb
  simp only [z0l,z0m,y77,g1,g2,y76,h39,h36,h40,h38,h32,h37,h41,h42,not_true,not_false_eq_true,z0,hb,show ¬ (21:Int)=0 by decide]
 ·rw [hcl,if_neg (by simp)] at pv
  rw [hcl,if_neg (by simp)] at h42
  rw [pv] at h32 h41
  rw [lv] at h37
  simp only at h32 h41 h37
  have hl:=w6q l hs m ks (z3v (z01 (z04 l hs)) (z01 (z04 m ks))).1.1 (z3v (z01 (z04 l hs)) (z01 (z04 m ks))).1.2.1 (z3v (z01 (z04 l hs)) (z01 (z04 m ks))).1.2.2
  rw [w4t hf hk hcl] at hl
  simp only [z0l,z0m,y77,g1,g2,y76,h39,h36,h40,h38,h32,h37,h41,h42,not_true,not_false_eq_true,z0,hl,show ¬ (5:Int)=0 by decide]
end Go.Am
end
section
namespace Go.Proofs.Ytolfgnbldofcjaa
open Go.ChangeShapes Go.WideShapes Go.ChangeAt Go.RowKit Go.Am
theorem v6a {e0:List (List D)} {e1:List (List D)} {e2:List (List D)} {e3:List (List D)} {e4:Int} {e5:Int} {e6:Int} {e7:Int} {e8:Int} {e9:Int} (h:G9 std (e0,e1,e2,e3,e4,e5,e6,e7,e8,e9,())=some (true,())):∃ h',z92 Try.prog 9 (toA [.agg [.list false 2 e0, .list false 1 e1], .agg [.list false 2 e2, .list false 1 e3], .agg [.int .i64 e4, .int .i64 e5, .int .i64 e6], .agg [.int .i64 e7, .int .i64 e8, .int .i64 e9]]) [] (.d (.bool true)) h':=by
 have:=(ok9.2 (e0,e1,e2,e3,e4,e5,e6,e7,e8,e9,()) (true,()) h).2
 exact ⟨_,this⟩
theorem shp9:w67 Try.prog 6 Try.f9.params.toList=true:=by kernel_rfl
theorem rt9:Try.f9.resultTypes=#[Try.f9.resultTypes.getD 0 0]:=by kernel_rfl
theorem rb9:Try.prog.underlying (Try.f9.resultTypes.getD 0 0)=some .bool:=by kernel_rfl
theorem v4h:Try.f9.params.toList.all (fun t=>decide (t<Try.prog.types.size))=true:=by kernel_rfl
set_option maxRecDepth 100000 in
theorem w1r (H:Type) (enc:TypeId×Value→H) (W:World) (base:Nat) (args:Array Value) (ds gs:List (DataW H)) (before:List MemPlace)
  (hval:∀ (j:Nat) t v,Try.f9.params[j]?=some t→args[j]?=some v→Value.okWide Try.prog W .any base t v)
  (hW:DataW.Whole enc Try.prog Try.f9.params.toList Rows.signalProofsSpec.vars false W args.toList ds gs before):
  Calls Try.prog 9 args W fun e W'=>∃ v,e= .returned v∧Rows.signalProofsSpec.post enc Try.prog Try.f9 false true false false W args v W':=by
 have hW':=hW
 obtain ⟨p,q,hA0,hV,rfl,hfz,hnd⟩:=hW
 have hA:DataW.TrodAll enc Try.prog W 0 (fun _=>true) true Try.f9.params.toList args.toList ds p:=hA0
 obtain ⟨xs,h1,h2,h3⟩:=w19 (O:=fun _=>False) (fun _ h=>h) shp9 (x98 hval) hA
 have hd:∃ x0 x1 x2 x3,xs=[x0,x1,x2,x3]∧(∃ ds,x0= .agg ds∧DKs [.list [.int .i64, .int .i64], .list [.list [.int .i64, .int .i64]]] ds)∧(∃ ds,x1= .agg ds∧DKs [.list [.int .i64, .int .i64], .list [.list [.int .i64, .int .i64]]] ds)∧(∃ ds,x2= .agg ds∧DKs [.int .i64, .int .i64, .int .i64] ds)∧(∃ ds,x3= .agg ds∧DKs [.int .i64, .int .i64, .int .i64] ds):=by
  match xs,h1 with
  |[x0,x1,x2,x3],h1=>exact ⟨x0,x1,x2,x3,rfl,h1.1,h1.2.1,h1.2.2.1,h1.2.2.2.1⟩
 obtain ⟨x0,x1,x2,x3,rfl,k0,k1,k2,k3⟩:=hd
 obtain ⟨l0,hz0,rfl⟩:=x5r k0
 obtain ⟨l1,hz1,rfl⟩:=x5r k1
 obtain ⟨a2,b2,c2,rfl,wa2,wb2,wc2⟩:=x4r k2
 obtain ⟨a3,b3,c3,rfl,wa3,wb3,wc3⟩:=x4r k3
 obtain ⟨h',hr⟩:=v6a (v9t l0 hz0 l1 hz1 a2 b2 c2 wa2 wb2 wc2 a3 b3 c3 wa3 wb3 wc3)
 exact (y9t hr h2 h3).mono fun e W' ⟨he,hs⟩=>⟨_,he,w3r laid rowed sized v4h rfl rt9 rb9 (fun ds hd=>by
  match ds,hd with
  |[d0,d1,d2,d3],_=>exact ⟨rfl,rfl,rfl⟩) hW' hs⟩
set_option maxRecDepth 100000 in
theorem w7y (os:Os) (started:os.Started) (H:Type) (enc:TypeId×Value→H):
  ReturnsInHanded {} Try.checked os 9 .any (Rows.signalProofsSpec.pre6 enc Try.prog Try.f9 Rows.signalProofsRow.domain false) (Rows.signalProofsSpec.post enc Try.prog Try.f9 false true false false):=by
 refine returnsInHanded_of_change (C:=Try.checked) own started (by kernel_rfl) Try.func9
  (ChangeSpec.witness6 (enc:=enc) (C:=Try.checked) false ⟨#[],#[.agg #[.slice none 0 0, .slice none 0 0], .agg #[.slice none 0 0, .slice none 0 0], .agg #[.int .i64 0, .int .i64 0, .int .i64 0], .agg #[.int .i64 0, .int .i64 0, .int .i64 0]],[]⟩ 8 (by kernel_rfl) (by kernel_rfl) (by kernel_rfl) (by kernel_rfl)) ?_
 intro W base args ds gs before hval hW _ _
 exact w1r H enc W base args ds gs before hval hW
set_option maxRecDepth 100000 in
theorem y2e:Rows.signalProofsRow.holds Try.pinned (OpenSpec.ofChange Rows.signalProofsSpec):=
 OpenClaim.holds_of_wide 9 Try.f9 rfl rfl rfl rfl rfl rfl rfl ⟨rfl,rfl,rfl,rfl,rfl⟩ rfl rfl rfl rfl rfl (by kernel_rfl) Try.func9 (by kernel_rfl)
  (of_decide_eq_true (by kernel_rfl)) (by unfold Func.isWrapper; first|(rw [if_pos (by decide+kernel)]; kernel_rfl)|(rw [if_neg (by decide+kernel)]; exact ⟨rfl,rfl⟩))
  (fun os started H enc _=>w7y os started H enc)
theorem signalProofs_holds:Rows.SignalProofsSaid:=y2e
end Go.Proofs.Ytolfgnbldofcjaa
end
