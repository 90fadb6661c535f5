/-
  Proved: SignalEither: for every input the call returns true, and each argument reads afterwards as it read before; there is no condition.
-/
import Derived.Test.YtolfgnbldofcjaaT5
import Derived.Test.YtolfgnbldofcjaaProg
import Derived.KernelRfl
set_option linter.unusedVariables false
set_option linter.unusedSimpArgs false
set_option linter.unusedSectionVars false
set_option maxRecDepth 100000
set_option maxHeartbeats 0
section
namespace Go.Am
open M06
def x3t (l:List Int):List (List D):=l.map fun n=>[D.int IntKind.i64 n]
theorem x9u {l:List Int} {i:Nat} {n:Int} (h:l[i]?=some n):(x3t l)[i]?=some [D.int IntKind.i64 n]:=by simp [x3t,h]
theorem x1c (l:List Int):(x3t l).length=l.length:=by simp [x3t]
def w4g (l:List Int):Nat:=l.foldl (fun g x=>Nat.gcd g x.natAbs) 0
theorem w4f (L:List (List D)) (u v:Int):∀ (n g:Nat),n<4611686018427387904→g<4611686018427387904→
  z49 (x8u std) ((g:Int),(n:Int),L,u,v,())=some ((Nat.gcd g n:Int),L,u,v,()):=by
 intro n
 induction n using Nat.strongRecOn with
 |_ n ih=>
  intro g hn hg
  rw [z0j]
  by_cases h:n=0
  ·subst h
   have:x8u std ((g:Int),((0:Nat):Int),L,u,v,())=some (.inr ((g:Int),L,u,v,())):=by
    have c1:((0:Nat):Int)=0:=rfl
    simp only [x8u,z0m,z0n,c1,not_true]
   rw [this,Nat.gcd_zero_right]
  ·have c1:¬ (n:Int)=0:=by omega
   have hr:((g:Int)).tmod (n:Int)=((g % n:Nat):Int):=by rw [Int.tmod_eq_emod_of_nonneg (by omega)]; rfl
   have:x8u std ((g:Int),(n:Int),L,u,v,())=some (.inl ((n:Int),((g % n:Nat):Int),L,u,v,())):=by
    simp only [x8u,z0m,z0n,c1,z03,hr,not_false_eq_true]
   rw [this]
   have hlt:=Nat.mod_lt g (show 0<n by omega)
   have:=ih (g % n) hlt n (by omega) hn
   simp only [this]
   rw [Nat.gcd_comm g n,Nat.gcd_rec n g,Nat.gcd_comm]
theorem v0a {n:Int} (h1: -4611686018427387904<n) (h2:n<4611686018427387904):amt n=(n.natAbs:Int):=by
 have:=x6p (n:=n) (by omega) (by omega)
 omega
theorem v3a {g n:Nat} (h1:g<4611686018427387904) (h2:n<4611686018427387904):Nat.gcd g n<4611686018427387904:=by
 rcases Nat.eq_zero_or_pos n with h|h
 ·subst h; rw [Nat.gcd_zero_right]; exact h1
 ·exact Nat.lt_of_le_of_lt (Nat.gcd_le_right g h) h2
theorem v5g {l:List Int} (hl:l.length≤1000) (hb:∀ n∈l, -4611686018427387904<n∧n<4611686018427387904):G93 std (x3t l,())=some ((w4g l:Int),()):=by
 have key:=z4z (b:=x8o it0 std) l.length (fun (g:Nat) (i:Nat)=>((g:Int),x3t l,(l.length:Int),(i:Int),())) (fun g i=>g=w4g (l.take i)∧g<4611686018427387904) (fun r=>r=((w4g l:Int),())) (fun g i hi ⟨h1,h2⟩=>by
  left
  obtain ⟨n,hn⟩:=z0l hi
  have gn:=x9u hn
  have hbn:=hb n (List.mem_of_getElem? hn)
  have c1:(i:Int)<(l.length:Int):=by omega
  have c2:(i:Int)≥0:=by omega
  have hw:=z1c (i:=i) (by omega)
  have h77:=y18 n
  rw [v0a hbn.1 hbn.2] at h77
  have hlp:=w4f (x3t l) (l.length:Int) (i:Int) n.natAbs g (by omega) h2
  refine ⟨Nat.gcd g n.natAbs,?_,?_,v3a h2 (by omega)⟩
  ·have cc:z3m [CK.int IntKind.i64] [D.int IntKind.i64 n]=true:=rfl
   have cd:dI (([D.int IntKind.i64 n]:List D)[0]?.getD D.nilp)=n:=rfl
   simp only [x8o,it0_eq,z0m,z0n,x1c,z0a,hw,c1,c2,gn,cc,cd,h77,hlp]
  ·rw [h1,w4g,w4g,z0z hn,List.foldl_append]; rfl) (fun g ⟨h1,h2⟩=>by
  have hn':¬ ((l.length:Int)<(l.length:Int)):=by omega
  rw [List.take_length] at h1
  exact ⟨((g:Int),()),by simp only [x8o,z0m,z0n,hn'],by rw [h1]⟩) 0 0 (Nat.zero_le _) ⟨rfl,by omega⟩
 obtain ⟨r,h1,rfl⟩:=key
 have e0:((0:Nat):Int)=0:=rfl
 rw [e0] at h1
 unfold G93
 simp only [g93,it0_eq,z0m,z0n,x1c,h1]
theorem y86:∀ (l:List Int) (g:Nat),(l.foldl (fun g x=>Nat.gcd g x.natAbs) g) ∣ g∧∀ x∈l,((l.foldl (fun g x=>Nat.gcd g x.natAbs) g:Nat):Int) ∣ x
 |[],g=>⟨Nat.dvd_refl _,by simp⟩
 |x::l,g=>by
  obtain ⟨h1,h2⟩:=y86 l (Nat.gcd g x.natAbs)
  simp only [List.foldl_cons]
  refine ⟨Nat.dvd_trans h1 (Nat.gcd_dvd_left _ _),fun y hy=>?_⟩
  rcases List.mem_cons.1 hy with rfl|hy
  ·exact Int.ofNat_dvd_left.2 (Nat.dvd_trans h1 (Nat.gcd_dvd_right _ _))
  ·exact h2 y hy
theorem x53 {l:List Int} {x:Int} (hx:x∈l) (h0:x≠0):0<w4g l:=by
 have:=(y86 l 0).2 x hx
 refine Nat.pos_of_ne_zero fun h=>h0 ?_
 have h':(l.foldl (fun g x=>Nat.gcd g x.natAbs) 0)=0:=h
 rw [h'] at this
 exact Int.zero_dvd.1 this
def z3z (P e Q f:Pt):Prop:=
 (0<crs e f∧0≤crs (sb Q P) f∧crs (sb Q P) f≤crs e f∧0≤crs (sb Q P) e∧crs (sb Q P) e≤crs e f)∨
 (0< - crs e f∧0≤ - crs (sb Q P) f∧ - crs (sb Q P) f≤ - crs e f∧0≤ - crs (sb Q P) e∧ - crs (sb Q P) e≤ - crs e f)
instance (P e Q f:Pt):Decidable (z3z P e Q f):=by unfold z3z; infer_instance
def sgn (e f:Pt):Int:=if crs e f<0 then -1 else 1
def z38 (P e Q f:Pt):Pt:=ad (ml P (sgn e f*crs e f)) (ml e (sgn e f*crs (sb Q P) f))
def z6o (P e Q f:Pt):Nat:=w4g [(z38 P e Q f).1,(z38 P e Q f).2,sgn e f*crs e f]
def y1i (P e Q f:Pt):Int×Int×Int:=((z38 P e Q f).1.tdiv (z6o P e Q f),(z38 P e Q f).2.tdiv (z6o P e Q f),(sgn e f*crs e f).tdiv (z6o P e Q f))
theorem w9r {e f:Pt} {A B:Int} (hA:0≤A) (he:z0p (-A) A e) (hf:z0p (-B) B f): -(2*(A*B))≤crs e f∧crs e f≤2*(A*B)∧(-(A*B)≤e.1*f.2∧e.1*f.2≤A*B)∧(-(A*B)≤e.2*f.1∧e.2*f.1≤A*B):=by
 obtain ⟨e1,e2,e3,e4⟩:=he
 obtain ⟨f1,f2,f3,f4⟩:=hf
 have m1:=z3s hA e1 e2 f3 f4
 have m2:=z3s hA e3 e4 f1 f2
 simp only [crs]
 omega
theorem y1z {e f:Pt} (he:z0p (-10000) 10000 e) (hf:z0p (-10000) 10000 f):IntKind.i64.wrap (e.1*f.2)=e.1*f.2∧IntKind.i64.wrap (e.2*f.1)=e.2*f.1∧IntKind.i64.wrap (e.1*f.2 - e.2*f.1)=crs e f∧ -200000000≤crs e f∧crs e f≤200000000:=by
 obtain ⟨h1,h2,h3,h4⟩:=w9r (A:=10000) (by omega) he hf
 exact ⟨z00 _ (by omega) (by omega),z00 _ (by omega) (by omega),by rw [z00 _ (by omega) (by omega)]; rfl,by omega,by omega⟩
theorem v5l {P e Q f:Pt} (hP:z0p (-5000) 5000 P) (he:z0p (-10000) 10000 e) (hQ:z0p (-5000) 5000 Q) (hf:z0p (-10000) 10000 f):
  G76 std (P.1,P.2,e.1,e.2,Q.1,Q.2,f.1,f.2,())=some (if z3z P e Q f then ((y1i P e Q f).1,(y1i P e Q f).2.1,(y1i P e Q f).2.2,true,()) else (0,0,0,false,())):=by
 have hap:z0p (-10000) 10000 (sb Q P):=y0h hQ hP
 obtain ⟨d1,d2⟩:=z3u (z14 hQ) (z14 hP)
 obtain ⟨w1,w2,w3,b1,b2⟩:=y1z he hf
 obtain ⟨w4,w5,w6,b3,b4⟩:=y1z hap hf
 obtain ⟨w7,w8,w9,b5,b6⟩:=y1z hap he
 unfold G76
 have hneg:∀ x:Int, -200000000≤x→x≤200000000→IntKind.i64.wrap (0 - x)= - x:=fun x h1 h2=>by rw [z00]<;>omega
 have n1:=hneg _ b1 b2
 have n2:=hneg _ b3 b4
 have n3:=hneg _ b5 b6
 have fin:∀ (σ:Int),σ=sgn e f→z3z P e Q f→0<σ*crs e f→0≤σ*crs (sb Q P) f→σ*crs (sb Q P) f≤σ*crs e f→
   (IntKind.i64.wrap (P.1*(σ*crs e f))=P.1*(σ*crs e f)∧IntKind.i64.wrap (P.2*(σ*crs e f))=P.2*(σ*crs e f)∧IntKind.i64.wrap (e.1*(σ*crs (sb Q P) f))=e.1*(σ*crs (sb Q P) f)∧IntKind.i64.wrap (e.2*(σ*crs (sb Q P) f))=e.2*(σ*crs (sb Q P) f))∧
   (IntKind.i64.wrap (P.1*(σ*crs e f)+e.1*(σ*crs (sb Q P) f))=(z38 P e Q f).1∧IntKind.i64.wrap (P.2*(σ*crs e f)+e.2*(σ*crs (sb Q P) f))=(z38 P e Q f).2)∧
   g93 it0 std ([[D.int IntKind.i64 (z38 P e Q f).1],[D.int IntKind.i64 (z38 P e Q f).2],[D.int IntKind.i64 (σ*crs e f)]],())=some ((z6o P e Q f:Int),())∧¬ (z6o P e Q f:Int)=0∧
   IntKind.i64.wrap ((z38 P e Q f).1.tdiv (z6o P e Q f))=(y1i P e Q f).1∧IntKind.i64.wrap ((z38 P e Q f).2.tdiv (z6o P e Q f))=(y1i P e Q f).2.1∧IntKind.i64.wrap ((σ*crs e f).tdiv (z6o P e Q f))=(y1i P e Q f).2.2:=by
  intro σ hσ hm h0 h1 h2
  have hs:σ=1∨σ= -1:=by rw [hσ]; unfold sgn; split<;>omega
  have hd:σ*crs e f≤200000000:=by rcases hs with rfl|rfl<;>omega
  have hmN:z38 P e Q f=ad (ml P (σ*crs e f)) (ml e (σ*crs (sb Q P) f)):=by rw [z38, ←hσ]
  have hmG:z6o P e Q f=w4g [(z38 P e Q f).1,(z38 P e Q f).2,σ*crs e f]:=by rw [z6o, ←hσ]
  have hmV:y1i P e Q f=((z38 P e Q f).1.tdiv (z6o P e Q f),(z38 P e Q f).2.tdiv (z6o P e Q f),(σ*crs e f).tdiv (z6o P e Q f)):=by rw [y1i, ←hσ]
  generalize σ*crs e f=d at*
  generalize σ*crs (sb Q P) f=x at*
  obtain ⟨p1,p2,p3,p4⟩:=hP
  obtain ⟨e1,e2,e3,e4⟩:=he
  have m1:=z3s (A:=5000) (B:=200000000) (a:=P.1) (b:=d) (by omega) (by omega) (by omega) (by omega) (by omega)
  have m2:=z3s (A:=5000) (B:=200000000) (a:=P.2) (b:=d) (by omega) (by omega) (by omega) (by omega) (by omega)
  have m3:=z3s (A:=10000) (B:=200000000) (a:=e.1) (b:=x) (by omega) (by omega) (by omega) (by omega) (by omega)
  have m4:=z3s (A:=10000) (B:=200000000) (a:=e.2) (b:=x) (by omega) (by omega) (by omega) (by omega) (by omega)
  have q1:(z38 P e Q f).1=P.1*d+e.1*x:=by rw [hmN]; rfl
  have q2:(z38 P e Q f).2=P.2*d+e.2*x:=by rw [hmN]; rfl
  have hb1: -4611686018427387904<(z38 P e Q f).1∧(z38 P e Q f).1<4611686018427387904:=by omega
  have hb2: -4611686018427387904<(z38 P e Q f).2∧(z38 P e Q f).2<4611686018427387904:=by omega
  have hg:=v5g (l:=[(z38 P e Q f).1,(z38 P e Q f).2,d]) (by simp) (fun n hn=>by
   simp only [List.mem_cons,List.not_mem_nil,or_false] at hn
   rcases hn with rfl|rfl|rfl
   ·exact hb1
   ·exact hb2
   ·omega)
  rw [←hmG] at hg
  have hpos:0<z6o P e Q f:=by rw [hmG]; exact x53 (x:=d) (by simp) (by omega)
  have td:∀ n:Int, -4611686018427387904<n→n<4611686018427387904→IntKind.i64.wrap (n.tdiv (z6o P e Q f))=n.tdiv (z6o P e Q f):=by
   intro n h1 h2
   have:(n.tdiv (z6o P e Q f)).natAbs≤n.natAbs:=by
    rw [Int.natAbs_tdiv]
    exact Nat.div_le_self _ _
   rw [z00]<;>omega
  refine ⟨⟨z00 _ (by omega) (by omega),z00 _ (by omega) (by omega),z00 _ (by omega) (by omega),z00 _ (by omega) (by omega)⟩,⟨?_,?_⟩,hg,by omega,?_,?_,?_⟩
  ·rw [z00 _ (by omega) (by omega),q1]
  ·rw [z00 _ (by omega) (by omega),q2]
  ·rw [td _ hb1.1 hb1.2,hmV]
  ·rw [td _ hb2.1 hb2.2,hmV]
  ·rw [td _ (by omega) (by omega),hmV]
 have t3:∀ u v w:List D,([u,v,w]:List (List D)).drop 0=[u,v,w]:=fun _ _ _=>rfl
 by_cases k0:crs e f<0
 ·have hσ:(-1:Int)=sgn e f:=by unfold sgn; rw [if_pos k0]
  have u1:¬ - crs e f=0:=by omega
  by_cases k2: - crs (sb Q P) f<0
  ·have:¬ z3z P e Q f:=fun h=>by unfold z3z at h; omega
   rw [if_neg this]
   simp only [g76,z0m,z0n,z0a,z0h,z0r,d1,d2,w1,w2,w3,w4,w5,w6,w7,w8,w9,n1,n2,n3,k0,u1,k2]
  by_cases k3: - crs (sb Q P) f> - crs e f
  ·have:¬ z3z P e Q f:=fun h=>by unfold z3z at h; omega
   rw [if_neg this]
   simp only [g76,z0m,z0n,z0a,z0h,z0r,d1,d2,w1,w2,w3,w4,w5,w6,w7,w8,w9,n1,n2,n3,k0,u1,k2,k3]
  by_cases k4: - crs (sb Q P) e<0
  ·have:¬ z3z P e Q f:=fun h=>by unfold z3z at h; omega
   rw [if_neg this]
   simp only [g76,z0m,z0n,z0a,z0h,z0r,d1,d2,w1,w2,w3,w4,w5,w6,w7,w8,w9,n1,n2,n3,k0,u1,k2,k3,k4]
  by_cases k5: - crs (sb Q P) e> - crs e f
  ·have:¬ z3z P e Q f:=fun h=>by unfold z3z at h; omega
   rw [if_neg this]
   simp only [g76,z0m,z0n,z0a,z0h,z0r,d1,d2,w1,w2,w3,w4,w5,w6,w7,w8,w9,n1,n2,n3,k0,u1,k2,k3,k4,k5]
  have hm:z3z P e Q f:= .inr ⟨by omega,by omega,by omega,by omega,by omega⟩
  have ff:=fin (-1) hσ hm (by omega) (by omega) (by omega)
  simp only [Int.neg_mul,Int.one_mul] at ff
  obtain ⟨⟨f1,f2,f3,f4⟩,⟨f5,f6⟩,f7,f8,f9,f10,f11⟩:=ff
  rw [if_pos hm]
  simp only [g76,z0m,z0n,z0a,z0h,z0r,y6y,d1,d2,w1,w2,w3,w4,w5,w6,w7,w8,w9,n1,n2,n3,k0,u1,k2,k3,k4,k5,f1,f2,f3,f4,f5,f6,List.drop_zero,List.take_succ_cons,List.take_zero,Nat.le_refl,f7,f8,f9,f10,f11,not_false_eq_true,show 0+3≤0+1+1+1 by decide,show (3:Nat)≤0+1+1+1 by decide,show (3:Nat)≤1+1+1 by decide]
 ·have hσ:(1:Int)=sgn e f:=by unfold sgn; rw [if_neg k0]
  by_cases k1:crs e f=0
  ·have:¬ z3z P e Q f:=fun h=>by unfold z3z at h; omega
   rw [if_neg this]
   have k1':¬ (0:Int)<0:=by omega
   simp only [g76,z0m,z0n,z0a,z0h,z0r,d1,d2,w1,w2,w3,w4,w5,w6,w7,w8,w9,n1,n2,n3,k1,k1']
  by_cases k2:crs (sb Q P) f<0
  ·have:¬ z3z P e Q f:=fun h=>by unfold z3z at h; omega
   rw [if_neg this]
   simp only [g76,z0m,z0n,z0a,z0h,z0r,d1,d2,w1,w2,w3,w4,w5,w6,w7,w8,w9,n1,n2,n3,k0,k1,k2]
  by_cases k3:crs (sb Q P) f>crs e f
  ·have:¬ z3z P e Q f:=fun h=>by unfold z3z at h; omega
   rw [if_neg this]
   simp only [g76,z0m,z0n,z0a,z0h,z0r,d1,d2,w1,w2,w3,w4,w5,w6,w7,w8,w9,n1,n2,n3,k0,k1,k2,k3]
  by_cases k4:crs (sb Q P) e<0
  ·have:¬ z3z P e Q f:=fun h=>by unfold z3z at h; omega
   rw [if_neg this]
   simp only [g76,z0m,z0n,z0a,z0h,z0r,d1,d2,w1,w2,w3,w4,w5,w6,w7,w8,w9,n1,n2,n3,k0,k1,k2,k3,k4]
  by_cases k5:crs (sb Q P) e>crs e f
  ·have:¬ z3z P e Q f:=fun h=>by unfold z3z at h; omega
   rw [if_neg this]
   simp only [g76,z0m,z0n,z0a,z0h,z0r,d1,d2,w1,w2,w3,w4,w5,w6,w7,w8,w9,n1,n2,n3,k0,k1,k2,k3,k4,k5]
  have hm:z3z P e Q f:= .inl ⟨by omega,by omega,by omega,by omega,by omega⟩
  have ff:=fin 1 hσ hm (by omega) (by omega) (by omega)
  simp only [Int.one_mul] at ff
  obtain ⟨⟨f1,f2,f3,f4⟩,⟨f5,f6⟩,f7,f8,f9,f10,f11⟩:=ff
  rw [if_pos hm]
  simp only [g76,z0m,z0n,z0a,z0h,z0r,y6y,d1,d2,w1,w2,w3,w4,w5,w6,w7,w8,w9,n1,n2,n3,k0,k1,k2,k3,k4,k5,f1,f2,f3,f4,f5,f6,List.drop_zero,List.take_succ_cons,List.take_zero,Nat.le_refl,f7,f8,f9,f10,f11,not_false_eq_true,show (3:Nat)≤1+1+1 by decide]
end Go.Am
end
section
namespace Go.Am
open M06
def x1u (a b:List Pt) (i j:Nat):Bool:=decide (z3z (a.getD i (0,0)) (sb (a.getD ((i+1) % a.length) (0,0)) (a.getD i (0,0))) (b.getD j (0,0)) (sb (b.getD ((j+1) % b.length) (0,0)) (b.getD j (0,0))))
def z7c (a b:List Pt) (i j:Nat):Int×Int×Int:=y1i (a.getD i (0,0)) (sb (a.getD ((i+1) % a.length) (0,0)) (a.getD i (0,0))) (b.getD j (0,0)) (sb (b.getD ((j+1) % b.length) (0,0)) (b.getD j (0,0)))
def z3a (a b:List Pt) (i:Nat):Option Nat:=if b.length=1 then none else (List.range b.length).find? fun j=>x1u a b i j
def y2s (a b:List Pt):Option (Int×Int×Int):=if a.length=1 then none else
 match (List.range a.length).find? fun i=>(z3a a b i).isSome with
 |some i=>(z3a a b i).map fun j=>z7c a b i j
 |none=>none
def y0b (a b:List Pt):Option (Int×Int×Int):=
 match a.find? fun p=>inC b p 1 with
 |some p=>some (p.1,p.2,1)
 |none=>match b.find? fun q=>inC a q 1 with
  |some q=>some (q.1,q.2,1)
  |none=>y2s a b
theorem y5z {a b:List Pt} {S:List Pt} (hb:Cyc S b) (ka:∀ x∈a,z0p (-5000) 5000 x) (kb:∀ x∈b,z0p (-5000) 5000 x) (la:a.length≤60) (lb:b.length≤60) (z0 z1 z2 z3 n:Int) (L4 L5 L6 M9 M10 M11 M12 M13 M14 M15:List (List D)):
  z49 (x2v it0 std) (z0,z1,z2,z3,L4,L5,L6,z0d a,z0d b,M9,M10,M11,M12,M13,M14,M15,n,z0d a,(a.length:Int),(0:Int),())=match a.find? fun p=>inC b p 1 with
   |some p=>some (.inl (p.1,p.2,1,0,()))
   |none=>some (.inr (z0,z1,z2,z3,L4,L5,L6,M9,M10,M11,M12,M13,M14,M15,n,())):=by
 have key:=z2d (b:=x2v it0 std) a.length (fun i=>(z0,z1,z2,z3,L4,L5,L6,z0d a,z0d b,M9,M10,M11,M12,M13,M14,M15,n,z0d a,(a.length:Int),(i:Int),())) (fun i=>inC b (a.getD i (0,0)) 1)
  (fun i=> .inl ((a.getD i (0,0)).1,(a.getD i (0,0)).2,1,0,())) (.inr (z0,z1,z2,z3,L4,L5,L6,M9,M10,M11,M12,M13,M14,M15,n,())) (fun i hi=>by
  obtain ⟨p,hp⟩:=z0l hi
  have gp:=z0v hp
  rw [z4n hp]
  have hpb:=ka p (List.mem_of_getElem? hp)
  have h57:g57 it0 std (z0d b,p.1,p.2,1,())=_:=w61 hb (fun x hx=>by have:=kb x hx; simp only [z0p] at*; omega) (by omega) (p:=p) (by simp only [Big,z0p] at*; omega) (by omega) (by omega)
  have c1:(i:Int)<(a.length:Int):=by omega
  have c2:(i:Int)≥0:=by omega
  have hw:=z1c (i:=i) (by omega)
  cases hin:inC b p 1 with
  |true=>simp only [x2v,z0m,z0n,z0g,z0u,z0t,z1b,z0i,z0c,z0a,hw,c1,c2,gp,h57,hin]
  |false=>simp only [x2v,z0m,z0n,z0g,z0u,z0t,z1b,z0i,z0c,z0a,hw,c1,c2,gp,h57,hin]) (by
  have hn:¬ ((a.length:Int)<(a.length:Int)):=by omega
  simp only [x2v,z0m,z0n,hn])
 have e0:((0:Nat):Int)=0:=rfl
 rw [e0] at key
 rcases key with ⟨i,i1,i2,i3,i4⟩|⟨i1,i2⟩
 ·rw [y1r (d:=(0,0)) i1 i2 i3]; exact i4
 ·rw [y1s (d:=(0,0)) i1]; exact i2
theorem w3t {a b:List Pt} {S:List Pt} (hb:Cyc S b) (kb:∀ x∈b,z0p (-5000) 5000 x) (lb:b.length≤60) {i:Nat} (ki:z0p (-5000) 5000 (a.getD i (0,0))) (kw:z0p (-10000) 10000 (sb (a.getD ((i+1) % a.length) (0,0)) (a.getD i (0,0))))
  (z0 z1 z2 z3 y11 y12 y13 y14:Int) (L4 L5 L6 L7 L8 L9 L10:List (List D)) (hz:z0=0∧z1=0∧z2=0∧z3=0):
  ∃ r,z49 (y6o it0 std) (z0,z1,z2,z3,L4,L5,L6,L7,L8,L9,L10,y11,y12,y13,y14,(a.getD i (0,0)).1,(a.getD i (0,0)).2,(sb (a.getD ((i+1) % a.length) (0,0)) (a.getD i (0,0))).1,(sb (a.getD ((i+1) % a.length) (0,0)) (a.getD i (0,0))).2,z0d b,z0d b,(b.length:Int),(0:Int),())=some r∧
   match z3a a b i with
   |some j=>∃ u15 u16 u17 u18 L19,r= .inr (.inl ((z7c a b i j).1,(z7c a b i j).2.1,(z7c a b i j).2.2,0,L4,L5,L6,L7,L8,L9,L10,y11,y12,y13,y14,u15,u16,u17,u18,L19,()))
   |none=>∃ u15 u16 u17 u18 L19,r= .inl (0,0,0,0,L4,L5,L6,L7,L8,L9,L10,y11,y12,y13,y14,u15,u16,u17,u18,L19,())∨r= .inr (.inr (0,0,0,0,L4,L5,L6,L7,L8,L9,L10,y11,y12,y13,y14,u15,u16,u17,u18,L19,())):=by
 obtain ⟨rfl,rfl,rfl,rfl⟩:=hz
 generalize hP:a.getD i (0,0)=P at*
 generalize hE:sb (a.getD ((i+1) % a.length) (0,0)) P=e at*
 have hrow:z3a a b i=if b.length=1 then none else (List.range b.length).find? fun j=>decide (z3z P e (b.getD j (0,0)) (sb (b.getD ((j+1) % b.length) (0,0)) (b.getD j (0,0)))):=by
  unfold z3a x1u
  rw [hP,hE]
 have hval:∀ j,z7c a b i j=y1i P e (b.getD j (0,0)) (sb (b.getD ((j+1) % b.length) (0,0)) (b.getD j (0,0))):=fun j=>by unfold z7c; rw [hP,hE]
 have hbn:1≤b.length:=by
  match b,hb with
  |q::r,_=>simp
 have sbm:∀ x∈b,z1f x:=fun x hx=>z14 (kb x hx)
 by_cases h1:b.length=1
 ·obtain ⟨q,rfl⟩:∃ q,b=[q]:=by
   match b,h1 with
   |[q],_=>exact ⟨q,rfl⟩
  rw [hrow,if_pos h1]
  have gx:=z0v (l:=[q]) (i:=0) rfl
  obtain ⟨d1,d2⟩:=z3u (sbm q (by simp)) (sbm q (by simp))
  have q1:(sb q q).1=0:=by simp [sb]
  have q2:(sb q q).2=0:=by simp [sb]
  rw [q1] at d1
  rw [q2] at d2
  have w1:IntKind.i64.wrap 1=1:=by decide
  have t1:(1:Int).tmod 1=0:=by decide
  refine ⟨_,?_,P.1,P.2,e.1,e.2,z0d [q], .inl rfl⟩
  rw [z0j]
  have:y6o it0 std (0,0,0,0,L4,L5,L6,L7,L8,L9,L10,y11,y12,y13,y14,P.1,P.2,e.1,e.2,z0d [q],z0d [q],(([q]:List Pt).length:Int),(0:Int),())=some (.inr (.inl (0,0,0,0,L4,L5,L6,L7,L8,L9,L10,y11,y12,y13,y14,P.1,P.2,e.1,e.2,z0d [q],()))):=by
   have l1:((0+1:Nat):Int)=1:=rfl
   simp only [y6o,z0m,z0n,z0g,z0u,z0t,z1b,z0i,z0c,z0a,z03,z0h,l1,Int.zero_add,w1,t1,gx,d1,d2,Int.toNat_zero,ge_iff_le,Int.le_refl,show (0:Int)<1 by decide,show ¬ (1:Int)=0 by decide,not_false_eq_true]
  rw [this]
 ·have h2:2≤b.length:=by omega
  rw [hrow,if_neg h1]
  have key:=z2d (b:=y6o it0 std) b.length (fun j=>(0,0,0,0,L4,L5,L6,L7,L8,L9,L10,y11,y12,y13,y14,P.1,P.2,e.1,e.2,z0d b,z0d b,(b.length:Int),(j:Int),())) (fun j=>decide (z3z P e (b.getD j (0,0)) (sb (b.getD ((j+1) % b.length) (0,0)) (b.getD j (0,0)))))
   (fun j=> .inr (.inl ((y1i P e (b.getD j (0,0)) (sb (b.getD ((j+1) % b.length) (0,0)) (b.getD j (0,0)))).1,(y1i P e (b.getD j (0,0)) (sb (b.getD ((j+1) % b.length) (0,0)) (b.getD j (0,0)))).2.1,(y1i P e (b.getD j (0,0)) (sb (b.getD ((j+1) % b.length) (0,0)) (b.getD j (0,0)))).2.2,0,L4,L5,L6,L7,L8,L9,L10,y11,y12,y13,y14,P.1,P.2,e.1,e.2,z0d b,())))
   (.inr (.inr (0,0,0,0,L4,L5,L6,L7,L8,L9,L10,y11,y12,y13,y14,P.1,P.2,e.1,e.2,z0d b,()))) (fun j hj=>by
   obtain ⟨u,hu⟩:=z0l hj
   obtain ⟨v,hv⟩:=z0l (l:=b) (i:=(j+1) % b.length) (Nat.mod_lt _ (by omega))
   have gu:=z0v hu
   have gv:=z0v hv
   have hne:=y0w hb h2 hu hv
   rw [z4n hu,z4n hv]
   have bu:=kb u (List.mem_of_getElem? hu)
   have bv:=kb v (List.mem_of_getElem? hv)
   obtain ⟨d1,d2⟩:=z3u (z14 bv) (z14 bu)
   obtain ⟨m1,m2⟩:=y2r (i:=j) (n:=b.length) (by omega) (by omega)
   have c2:(j:Int)<(b.length:Int):=by omega
   have c3:(j:Int)≥0:=by omega
   have c4:¬ (b.length:Int)=0:=by omega
   have c5:(((j+1) % b.length:Nat):Int)≥0:=by omega
   have c6:(((j+1) % b.length:Nat):Int)<(b.length:Int):=by have:=Nat.mod_lt (j+1) (show 0<b.length by omega); omega
   have hz:(if (sb v u).1=0 then if (sb v u).2=0 then true else false else false)=false:=by
    by_cases q1:(sb v u).1=0
    ·rw [if_pos q1,if_neg (fun e=>hne (Prod.ext q1 e))]
    ·rw [if_neg q1]
   have h76:g76 it0 std (P.1,P.2,e.1,e.2,u.1,u.2,(sb v u).1,(sb v u).2,())=_:=v5l ki kw bu (y0h bv bu)
   by_cases hm:z3z P e u (sb v u)
   ·rw [if_pos hm] at h76
    simp only [y6o,z0m,z0n,z0g,z0u,z0t,z1b,z0i,z0c,z0a,z03,z0h,m1,m2,gu,gv,d1,d2,c2,c3,c4,c5,c6,hz,h76,hm,not_false_eq_true]
   ·rw [if_neg hm] at h76
    simp only [y6o,z0m,z0n,z0g,z0u,z0t,z1b,z0i,z0c,z0a,z03,z0h,m1,m2,gu,gv,d1,d2,c2,c3,c4,c5,c6,hz,h76,hm,not_false_eq_true]) (by
   have hn:¬ ((b.length:Int)<(b.length:Int)):=by omega
   simp only [y6o,z0m,z0n,hn])
  have e0:((0:Nat):Int)=0:=rfl
  rw [e0] at key
  rcases key with ⟨j,j1,j2,j3,j4⟩|⟨j1,j2⟩
  ·have hf:=y1r (l:=List.range b.length) (d:=0) (P:=fun j=>decide (z3z P e (b.getD j (0,0)) (sb (b.getD ((j+1) % b.length) (0,0)) (b.getD j (0,0))))) (i:=j) (by simpa using j1) (by
    have:(List.range b.length).getD j 0=j:=by simp [List.getD_eq_getElem?_getD,j1]
    rw [this]; exact j2) (fun k hk=>by
    have:(List.range b.length).getD k 0=k:=by simp [List.getD_eq_getElem?_getD,show k<b.length by omega]
    rw [this]; exact j3 k hk)
   have e1:(List.range b.length).getD j 0=j:=by simp [List.getD_eq_getElem?_getD,j1]
   rw [e1] at hf
   rw [hf]
   refine ⟨_,j4,P.1,P.2,e.1,e.2,z0d b,?_⟩
   rw [hval]
  ·have hf:=y1s (l:=List.range b.length) (d:=0) (P:=fun j=>decide (z3z P e (b.getD j (0,0)) (sb (b.getD ((j+1) % b.length) (0,0)) (b.getD j (0,0))))) (fun k hk=>by
    have hk':k<b.length:=by simpa using hk
    have:(List.range b.length).getD k 0=k:=by simp [List.getD_eq_getElem?_getD,hk']
    rw [this]; exact j1 k hk')
   rw [hf]
   exact ⟨_,j2,P.1,P.2,e.1,e.2,z0d b, .inr rfl⟩
theorem w0d {a b:List Pt} {S T:List Pt} (ha:Cyc T a) (hb:Cyc S b) (ka:∀ x∈a,z0p (-5000) 5000 x) (kb:∀ x∈b,z0p (-5000) 5000 x) (la:a.length≤60) (lb:b.length≤60) (L4 L5 L6 L7 L8:List (List D)):
  ∃ r,z49 (y50 it0 std) ((0:Int),(0:Int),(0:Int),(0:Int),L4,L5,L6,L7,L8,z0d b,z0d a,z0d a,(a.length:Int),(0:Int),())=some r∧
   match y2s a b with
   |some v=>∃ M4 M5 M6 M7 M8 M9 M10,r= .inr (.inl (v.1,v.2.1,v.2.2,0,M4,M5,M6,M7,M8,M9,M10,()))
   |none=>∃ M4 M5 M6 M7 M8 M9 M10,r= .inl (0,0,0,0,M4,M5,M6,M7,M8,M9,M10,())∨r= .inr (.inr (0,0,0,0,M4,M5,M6,M7,M8,M9,M10,())):=by
 have han:1≤a.length:=by
  match a,ha with
  |q::r,_=>simp
 have sbm:∀ x∈a,z1f x:=fun x hx=>z14 (ka x hx)
 unfold y2s
 by_cases h1:a.length=1
 ·obtain ⟨q,rfl⟩:∃ q,a=[q]:=by
   match a,h1 with
   |[q],_=>exact ⟨q,rfl⟩
  rw [if_pos h1]
  have gx:=z0v (l:=[q]) (i:=0) rfl
  obtain ⟨d1,d2⟩:=z3u (sbm q (by simp)) (sbm q (by simp))
  have q1:(sb q q).1=0:=by simp [sb]
  have q2:(sb q q).2=0:=by simp [sb]
  rw [q1] at d1
  rw [q2] at d2
  have w1:IntKind.i64.wrap 1=1:=by decide
  have t1:(1:Int).tmod 1=0:=by decide
  refine ⟨_,?_,L4,L5,L6,L7,L8,z0d b,z0d [q], .inl rfl⟩
  rw [z0j]
  have:y50 it0 std ((0:Int),(0:Int),(0:Int),(0:Int),L4,L5,L6,L7,L8,z0d b,z0d [q],z0d [q],(([q]:List Pt).length:Int),(0:Int),())=some (.inr (.inl (0,0,0,0,L4,L5,L6,L7,L8,z0d b,z0d [q],()))):=by
   have l1:((0+1:Nat):Int)=1:=rfl
   simp only [y50,z0m,z0n,z0g,z0u,z0t,z1b,z0i,z0c,z0a,z03,z0h,l1,Int.zero_add,w1,t1,gx,d1,d2,Int.toNat_zero,ge_iff_le,Int.le_refl,show (0:Int)<1 by decide,show ¬ (1:Int)=0 by decide,not_false_eq_true]
  rw [this]
 ·have h2:2≤a.length:=by omega
  rw [if_neg h1]
  have key:=z2d (b:=y50 it0 std) a.length (fun i=>((0:Int),(0:Int),(0:Int),(0:Int),L4,L5,L6,L7,L8,z0d b,z0d a,z0d a,(a.length:Int),(i:Int),())) (fun i=>(z3a a b i).isSome)
   (fun i=>match z3a a b i with|some j=> .inr (.inl ((z7c a b i j).1,(z7c a b i j).2.1,(z7c a b i j).2.2,0,L4,L5,L6,L7,L8,z0d b,z0d a,()))|none=> .inl (0,0,0,0,L4,L5,L6,L7,L8,z0d b,z0d a,()))
   (.inr (.inr (0,0,0,0,L4,L5,L6,L7,L8,z0d b,z0d a,()))) (fun i hi=>by
   obtain ⟨u,hu⟩:=z0l hi
   obtain ⟨v,hv⟩:=z0l (l:=a) (i:=(i+1) % a.length) (Nat.mod_lt _ (by omega))
   have gu:=z0v hu
   have gv:=z0v hv
   have hne:=y0w ha h2 hu hv
   have bu:=ka u (List.mem_of_getElem? hu)
   have bv:=ka v (List.mem_of_getElem? hv)
   obtain ⟨d1,d2⟩:=z3u (z14 bv) (z14 bu)
   obtain ⟨m1,m2⟩:=y2r (i:=i) (n:=a.length) (by omega) (by omega)
   have c2:(i:Int)<(a.length:Int):=by omega
   have c3:(i:Int)≥0:=by omega
   have c4:¬ (a.length:Int)=0:=by omega
   have c5:(((i+1) % a.length:Nat):Int)≥0:=by omega
   have c6:(((i+1) % a.length:Nat):Int)<(a.length:Int):=by have:=Nat.mod_lt (i+1) (show 0<a.length by omega); omega
   have hz:(if (sb v u).1=0 then if (sb v u).2=0 then true else false else false)=false:=by
    by_cases q1:(sb v u).1=0
    ·rw [if_pos q1,if_neg (fun e=>hne (Prod.ext q1 e))]
    ·rw [if_neg q1]
   obtain ⟨r,hr1,hr2⟩:=w3t (a:=a) (i:=i) hb kb lb (by rw [z4n hu]; exact bu) (by rw [z4n hu,z4n hv]; exact y0h bv bu) 0 0 0 0 u.1 u.2 (sb v u).1 (sb v u).2 L4 L5 L6 L7 L8 (z0d b) (z0d a) ⟨rfl,rfl,rfl,rfl⟩
   rw [z4n hu,z4n hv] at hr1
   cases hrow:z3a a b i with
   |some j=>
    rw [hrow] at hr2
    obtain ⟨u15,u16,u17,u18,L19,rfl⟩:=hr2
    simp only [y50,it0_eq,z0m,z0n,z0g,z0u,z0t,z1b,z0i,z0c,z0a,z03,z0h,m1,m2,gu,gv,d1,d2,c2,c3,c4,c5,c6,hz,hr1,not_false_eq_true,Option.isSome_some]
   |none=>
    rw [hrow] at hr2
    obtain ⟨u15,u16,u17,u18,L19,rfl|rfl⟩:=hr2
    ·simp only [y50,it0_eq,z0m,z0n,z0g,z0u,z0t,z1b,z0i,z0c,z0a,z03,z0h,m1,m2,gu,gv,d1,d2,c2,c3,c4,c5,c6,hz,hr1,not_false_eq_true,Option.isSome_none]
    ·simp only [y50,it0_eq,z0m,z0n,z0g,z0u,z0t,z1b,z0i,z0c,z0a,z03,z0h,m1,m2,gu,gv,d1,d2,c2,c3,c4,c5,c6,hz,hr1,not_false_eq_true,Option.isSome_none]) (by
   have hn:¬ ((a.length:Int)<(a.length:Int)):=by omega
   simp only [y50,z0m,z0n,hn])
  have e0:((0:Nat):Int)=0:=rfl
  rw [e0] at key
  rcases key with ⟨i,i1,i2,i3,i4⟩|⟨i1,i2⟩
  ·have e1:∀ k,k<a.length→(List.range a.length).getD k 0=k:=fun k hk=>by simp [List.getD_eq_getElem?_getD,hk]
   have hf:=y1r (l:=List.range a.length) (d:=0) (P:=fun i=>(z3a a b i).isSome) (i:=i) (by simpa using i1) (by rw [e1 i i1]; exact i2) (fun k hk=>by rw [e1 k (by omega)]; exact i3 k hk)
   rw [e1 i i1] at hf
   rw [hf]
   cases hrow:z3a a b i with
   |some j=>
    rw [hrow] at i4
    refine ⟨_,i4,?_⟩
    simp only [hrow,Option.map_some]
    exact ⟨L4,L5,L6,L7,L8,z0d b,z0d a,rfl⟩
   |none=>rw [hrow] at i2; cases i2
  ·have e1:∀ k,k<a.length→(List.range a.length).getD k 0=k:=fun k hk=>by simp [List.getD_eq_getElem?_getD,hk]
   have hf:=y1s (l:=List.range a.length) (d:=0) (P:=fun i=>(z3a a b i).isSome) (fun k hk=>by
    have hk':k<a.length:=by simpa using hk
    rw [e1 k hk']; exact i1 k hk')
   rw [hf]
   exact ⟨_,i2,L4,L5,L6,L7,L8,z0d b,z0d a, .inr rfl⟩
noncomputable def y3f (l:List Pt) (hs:List (List Pt)) (m:List Pt) (ks:List (List Pt)):(Int×Int×Int)×Int:=
 if z5o l hs≠0 then ((0,0,0),z5o l hs) else if z5o m ks≠0 then ((0,0,0),z5o m ks) else
  match y0b (z06 (z07 l hs)) (z06 (z07 m ks)) with
  |some v=>(v,0)
  |none=>((0,0,0),5)
theorem x2w {a b:List Pt} {S T:List Pt} (ha:Cyc T a) (hb:Cyc S b) (ka:∀ x∈a,z0p (-5000) 5000 x) (kb:∀ x∈b,z0p (-5000) 5000 x) (la:a.length≤60) (lb:b.length≤60) (L4 L5 L7 L8:List (List D)):
  z49 (y10 it0 std) ((0:Int),(0:Int),(0:Int),(0:Int),L4,L5,z0d a,L7,L8,z0d b,z0d a,z0d b,z0d b,z0d a,(0:Int),())=match a.find? fun p=>inC b p 1 with
   |some p=>some (.inl (p.1,p.2,1,0,()))
   |none=>match b.find? fun q=>inC a q 1 with
    |some q=>some (.inl (q.1,q.2,1,0,()))
    |none=>some (.inr (0,0,0,0,L4,L5,z0d a,L7,L8,z0d b,())):=by
 have v1:IntKind.i64.wrap ((0:Int)+1)=1:=by decide
 have v2:IntKind.i64.wrap ((1:Int)+1)=2:=by decide
 have q0:(0:Int)<2:=by omega
 have q1:(1:Int)<2:=by omega
 have q2:¬ (2:Int)<2:=by omega
 have q3:¬ (1:Int)=0:=by omega
 have q4:(0:Int)<((2:Nat):Int):=by omega
 have q5:(1:Int)<((2:Nat):Int):=by omega
 have q6:(1:Int)≥0:=by omega
 have q7:(0:Int)≥0:=by omega
 have l1:=y5z hb ka kb la lb 0 0 0 0 0 L4 L5 (z0d a) L7 L8 (z0d b) (z0d a) (z0d b) (z0d b) (z0d a)
 have l2:=y5z ha kb ka lb la 0 0 0 0 1 L4 L5 (z0d a) L7 L8 (z0d b) (z0d a) (z0d b) (z0d b) (z0d a)
 rw [z0j]
 cases h1:a.find? fun p=>inC b p 1 with
 |some p=>
  rw [h1] at l1
  have t0:y10 it0 std ((0:Int),(0:Int),(0:Int),(0:Int),L4,L5,z0d a,L7,L8,z0d b,z0d a,z0d b,z0d b,z0d a,(0:Int),())=some (.inr (.inl (p.1,p.2,1,0,()))):=by
   simp only [y10,it0_eq,z0m,z0n,z0c,q0,q4,q7,l1]
  rw [t0]
 |none=>
  rw [h1] at l1
  have t0:y10 it0 std ((0:Int),(0:Int),(0:Int),(0:Int),L4,L5,z0d a,L7,L8,z0d b,z0d a,z0d b,z0d b,z0d a,(0:Int),())=some (.inl ((0:Int),(0:Int),(0:Int),(0:Int),L4,L5,z0d a,L7,L8,z0d b,z0d a,z0d b,z0d b,z0d a,(1:Int),())):=by
   simp only [y10,it0_eq,z0m,z0n,z0c,q0,q4,q7,l1,z0a,v1]
  rw [t0]
  simp only
  rw [z0j]
  cases h2:b.find? fun q=>inC a q 1 with
  |some q=>
   rw [h2] at l2
   have t1:y10 it0 std ((0:Int),(0:Int),(0:Int),(0:Int),L4,L5,z0d a,L7,L8,z0d b,z0d a,z0d b,z0d b,z0d a,(1:Int),())=some (.inr (.inl (q.1,q.2,1,0,()))):=by
    simp only [y10,it0_eq,z0m,z0n,z0c,q1,q3,q5,q6,l2]
   rw [t1]
  |none=>
   rw [h2] at l2
   have t1:y10 it0 std ((0:Int),(0:Int),(0:Int),(0:Int),L4,L5,z0d a,L7,L8,z0d b,z0d a,z0d b,z0d b,z0d a,(1:Int),())=some (.inl ((0:Int),(0:Int),(0:Int),(0:Int),L4,L5,z0d a,L7,L8,z0d b,z0d a,z0d b,z0d b,z0d a,(2:Int),())):=by
    simp only [y10,it0_eq,z0m,z0n,z0c,q1,q3,q5,q6,l2,z0a,v2]
   rw [t1]
   simp only
   rw [z0j]
   have t2:y10 it0 std ((0:Int),(0:Int),(0:Int),(0:Int),L4,L5,z0d a,L7,L8,z0d b,z0d a,z0d b,z0d b,z0d a,(2:Int),())=some (.inr (.inr ((0:Int),(0:Int),(0:Int),(0:Int),L4,L5,z0d a,L7,L8,z0d b,()))):=by
    simp only [y10,z0m,z0n,q2]
   rw [t2]
theorem v5p (l:List Pt) (hs:List (List Pt)) (m:List Pt) (ks:List (List Pt)):
  G37 std (z0d l,z1m hs,z0d m,z1m ks,())=some ((y3f l hs m ks).1.1,(y3f l hs m ks).1.2.1,(y3f l hs m ks).1.2.2,(y3f l hs m ks).2,()):=by
 unfold G37 y3f
 by_cases h:z5o l hs=0
 case neg=>
  have h62:g62 it0 std (z0d l,z1m hs,z0d m,z1m ks,())=_:=y4k h m ks
  simp only [g37,z0m,z0n,h62,h,not_false_eq_true,ne_eq]
 have hf:=z1k.1 h
 by_cases h':z5o m ks=0
 case neg=>
  have h62:g62 it0 std (z0d l,z1m hs,z0d m,z1m ks,())=_:=y4j hf h'
  simp only [g37,z0m,z0n,h62,h,h',not_false_eq_true,ne_eq,not_true]
 have hk:=z1k.1 h'
 have h62:g62 it0 std (z0d l,z1m hs,z0d m,z1m ks,())=_:=x6s hf hk
 rw [if_neg (by simp [h]),if_neg (by simp [h'])]
 have hc:=x2w hf.cyc hk.cyc hf.cbox hk.cbox (z3p hf) (z3p hk) (z0d l) (z1m hs) (z0d m) (z1m ks)
 obtain ⟨r,r1,r2⟩:=w0d hf.cyc hk.cyc hf.cbox hk.cbox (z3p hf) (z3p hk) (z0d l) (z1m hs) (z0d (z06 (z07 l hs))) (z0d m) (z1m ks)
 unfold y0b
 cases h1:(z06 (z07 l hs)).find? fun p=>inC (z06 (z07 m ks)) p 1 with
 |some p=>
  rw [h1] at hc
  simp only [g37,it0_eq,z0m,z0n,h62,hc,not_true]
 |none=>
  rw [h1] at hc
  cases h2:(z06 (z07 m ks)).find? fun q=>inC (z06 (z07 l hs)) q 1 with
  |some q=>
   rw [h2] at hc
   simp only [g37,it0_eq,z0m,z0n,h62,hc,not_true]
  |none=>
   rw [h2] at hc
   cases h3:y2s (z06 (z07 l hs)) (z06 (z07 m ks)) with
   |some v=>
    rw [h3] at r2
    obtain ⟨M4,M5,M6,M7,M8,M9,M10,rfl⟩:=r2
    simp only [g37,it0_eq,z0m,z0n,h62,hc,z0c,r1,not_true]
   |none=>
    rw [h3] at r2
    obtain ⟨M4,M5,M6,M7,M8,M9,M10,rfl|rfl⟩:=r2
    ·simp only [g37,it0_eq,z0m,z0n,h62,hc,z0c,r1,not_true]
    ·simp only [g37,it0_eq,z0m,z0n,h62,hc,z0c,r1,not_true]
end Go.Am
end
section
namespace Go.Am
open M06
theorem y90 {a b:List Pt} {x:Pt} {k:Int} (hk:0<k) (ha:InH a x k) (hb:InH b x k):InH (dif a b) (0,0) 1:=by
 intro d
 obtain ⟨p,hp,h1⟩:=ha d
 obtain ⟨q,hq,h2⟩:=hb (ng d)
 refine ⟨sb p q,z34.2 ⟨p,hp,q,hq,rfl⟩,?_⟩
 have e:k*crs d (sb (0,0) (ml (sb p q) 1))=crs d (sb x (ml p k))+crs (ng d) (sb x (ml q k)):=by simp only [crs,sb,ml,ng]; grind
 refine Classical.byContradiction fun hc=>?_
 have:=Int.mul_neg_of_pos_of_neg hk (Int.not_le.1 hc)
 omega
theorem w70 {a b:List Pt} {x:Pt} {k:Int} (hk:0<k) (ha:InH a x k) (hb:InH b x k) {A B C:Int} (h:okL a b A B C):False:=by
 obtain ⟨p,hp,h1⟩:=ha (-B,A)
 obtain ⟨q,hq,h2⟩:=hb (B, -A)
 have e1:crs (-B,A) (sb x (ml p k))=k*dt (A,B) p - dt (A,B) x:=by simp only [crs,dt,sb,ml]; grind
 have e2:crs (B, -A) (sb x (ml q k))=dt (A,B) x - k*dt (A,B) q:=by simp only [crs,dt,sb,ml]; grind
 have:=Int.mul_le_mul_of_nonneg_left (h.1 p hp) (Int.le_of_lt hk)
 have:=Int.mul_lt_mul_of_pos_left (h.2 q hq) hk
 omega
theorem w8m {a:List Pt} {x:Pt} {k:Int} (hk:0≤k) (h:InH a x k) (ka:∀ p∈a,z0p (-5000) 5000 p):z0p (-(5000*k)) (5000*k) x:=by
 obtain ⟨p1,q1,h1⟩:=h (0,1)
 obtain ⟨p2,q2,h2⟩:=h (0, -1)
 obtain ⟨p3,q3,h3⟩:=h (1,0)
 obtain ⟨p4,q4,h4⟩:=h (-1,0)
 have b1:=ka p1 q1; have b2:=ka p2 q2; have b3:=ka p3 q3; have b4:=ka p4 q4
 simp only [crs,sb,ml,z0p] at*
 have m1:=Int.mul_le_mul_of_nonneg_right b1.2.1 hk
 have m2:=Int.mul_le_mul_of_nonneg_right b2.1 hk
 have m3:=Int.mul_le_mul_of_nonneg_right b3.2.2.1 hk
 have m4:=Int.mul_le_mul_of_nonneg_right b4.2.2.2 hk
 omega
theorem x5s {l:List Pt} {hs:List (List Pt)} (hf:z4l l hs) {m:List Pt} {ks:List (List Pt)} (hk:z4l m ks) {v:Int×Int×Int} (h:y0b (z06 (z07 l hs)) (z06 (z07 m ks))=some v):
  1≤v.2.2∧v.2.2≤268435456∧Big (v.1,v.2.1)∧inC (z06 (z07 l hs)) (v.1,v.2.1) v.2.2=true∧inC (z06 (z07 m ks)) (v.1,v.2.1) v.2.2=true:=by
 have ha:=z12 hf.cyc
 have hb:=z12 hk.cyc
 have ka:=hf.cbox
 have kb:=hk.cbox
 generalize z06 (z07 l hs)=a at*
 generalize z06 (z07 m ks)=b at*
 have pt:∀ {S:List Pt} {p:Pt},p∈S→InH S p 1:=fun h d=>⟨_,h,by simp [crs,sb,ml]⟩
 unfold y0b at h
 cases h1:a.find? fun p=>inC b p 1 with
 |some p=>
  rw [h1] at h
  cases h
  have hp:=List.mem_of_find?_eq_some h1
  have hi:=List.find?_some h1
  have:=ka p hp
  refine ⟨by simp,by simp,by simp only [Big,z0p] at*; omega,?_,hi⟩
  exact (z2k ha (k:=1) (by omega)).2 (pt hp)
 |none=>
  rw [h1] at h
  cases h2:b.find? fun q=>inC a q 1 with
  |some q=>
   rw [h2] at h
   cases h
   have hp:=List.mem_of_find?_eq_some h2
   have hi:=List.find?_some h2
   have:=kb q hp
   refine ⟨by simp,by simp,by simp only [Big,z0p] at*; omega,hi,?_⟩
   exact (z2k hb (k:=1) (by omega)).2 (pt hp)
  |none=>
   rw [h2] at h
   simp only at h
   unfold y2s at h
   by_cases hl:a.length=1
   ·rw [if_pos hl] at h; cases h
   rw [if_neg hl] at h
   cases h3:(List.range a.length).find? fun i=>(z3a a b i).isSome with
   |none=>rw [h3] at h; cases h
   |some i=>
    rw [h3] at h
    simp only at h
    cases h4:z3a a b i with
    |none=>rw [h4] at h; cases h
    |some j=>
     rw [h4] at h
     simp only [Option.map_some,Option.some.injEq] at h
     subst h
     have hi:i<a.length:=by simpa using List.mem_of_find?_eq_some h3
     unfold z3a at h4
     by_cases hlb:b.length=1
     ·rw [if_pos hlb] at h4; cases h4
     rw [if_neg hlb] at h4
     have hj:j<b.length:=by simpa using List.mem_of_find?_eq_some h4
     have hm:=List.find?_some h4
     unfold x1u at hm
     have hm:=of_decide_eq_true hm
     unfold z7c
     obtain ⟨P,hP⟩:=z0l hi
     obtain ⟨P',hP'⟩:=z0l (l:=a) (i:=(i+1) % a.length) (Nat.mod_lt _ (by omega))
     obtain ⟨Q,hQ⟩:=z0l hj
     obtain ⟨Q',hQ'⟩:=z0l (l:=b) (i:=(j+1) % b.length) (Nat.mod_lt _ (by omega))
     rw [z4n hP,z4n hP',z4n hQ,z4n hQ'] at hm⊢
     have mP:=List.mem_of_getElem? hP; have mP':=List.mem_of_getElem? hP'
     have mQ:=List.mem_of_getElem? hQ; have mQ':=List.mem_of_getElem? hQ'
     have hσ:sgn (sb P' P) (sb Q' Q)=1∨sgn (sb P' P) (sb Q' Q)= -1:=by unfold sgn; split<;>omega
     have hc:0<sgn (sb P' P) (sb Q' Q)*crs (sb P' P) (sb Q' Q)∧0≤sgn (sb P' P) (sb Q' Q)*crs (sb Q P) (sb Q' Q)∧sgn (sb P' P) (sb Q' Q)*crs (sb Q P) (sb Q' Q)≤sgn (sb P' P) (sb Q' Q)*crs (sb P' P) (sb Q' Q)∧
       0≤sgn (sb P' P) (sb Q' Q)*crs (sb Q P) (sb P' P)∧sgn (sb P' P) (sb Q' Q)*crs (sb Q P) (sb P' P)≤sgn (sb P' P) (sb Q' Q)*crs (sb P' P) (sb Q' Q):=by
      unfold sgn
      unfold z3z at hm
      split
      ·rename_i hn
       simp only [Int.neg_mul,Int.one_mul]
       omega
      ·rename_i hn
       simp only [Int.one_mul]
       omega
     obtain ⟨c1,c2,c3,c4,c5⟩:=hc
     have hin:=w8a ha hb (s:=(P,P')) (t:=(Q,Q')) mP mP' mQ mQ' hσ c1 c2 c3 c4 c5
     simp only at hin
     have hN:z38 P (sb P' P) Q (sb Q' Q)=ad (ml P (sgn (sb P' P) (sb Q' Q)*crs (sb P' P) (sb Q' Q))) (ml (sb P' P) (sgn (sb P' P) (sb Q' Q)*crs (sb Q P) (sb Q' Q))):=rfl
     rw [←hN] at hin
     have hG:z6o P (sb P' P) Q (sb Q' Q)=w4g [(z38 P (sb P' P) Q (sb Q' Q)).1,(z38 P (sb P' P) Q (sb Q' Q)).2,sgn (sb P' P) (sb Q' Q)*crs (sb P' P) (sb Q' Q)]:=rfl
     have hV:y1i P (sb P' P) Q (sb Q' Q)=((z38 P (sb P' P) Q (sb Q' Q)).1.tdiv (z6o P (sb P' P) Q (sb Q' Q)),(z38 P (sb P' P) Q (sb Q' Q)).2.tdiv (z6o P (sb P' P) Q (sb Q' Q)),(sgn (sb P' P) (sb Q' Q)*crs (sb P' P) (sb Q' Q)).tdiv (z6o P (sb P' P) Q (sb Q' Q))):=rfl
     rw [hV]
     have hdl:sgn (sb P' P) (sb Q' Q)*crs (sb P' P) (sb Q' Q)≤200000000:=by
      have:=y1z (y0h (ka P' mP') (ka P mP)) (y0h (kb Q' mQ') (kb Q mQ))
      rcases hσ with h|h<;>rw [h]<;>omega
     generalize z38 P (sb P' P) Q (sb Q' Q)=N at*
     generalize sgn (sb P' P) (sb Q' Q)*crs (sb P' P) (sb Q' Q)=D at*
     generalize z6o P (sb P' P) Q (sb Q' Q)=g at*
     have hdv:=y86 [N.1,N.2,D] 0
     have hgd:∀ x∈[N.1,N.2,D],(g:Int) ∣ x:=fun x hx=>by rw [hG]; exact hdv.2 x hx
     have gpos:0<g:=by rw [hG]; exact x53 (x:=D) (by simp) (by omega)
     have t1:=Int.tdiv_mul_cancel (hgd N.1 (by simp))
     have t2:=Int.tdiv_mul_cancel (hgd N.2 (by simp))
     have t3:=Int.tdiv_mul_cancel (hgd D (by simp))
     simp only
     generalize N.1.tdiv g=X at*
     generalize N.2.tdiv g=Y at*
     generalize D.tdiv g=d at*
     have hNe:N=ml (X,Y) g:=Prod.ext t1.symm t2.symm
     have hDe:D=(g:Int)*d:=by rw [Int.mul_comm]; exact t3.symm
     have gp:(0:Int)<g:=by omega
     have hdpos:0<d:=by
      refine Classical.byContradiction fun hc=>?_
      have:=Int.mul_nonneg (Int.le_of_lt gp) (show 0≤ -d by omega)
      rw [Int.mul_neg] at this; omega
     have hdD:d≤D:=by
      have:=Int.mul_le_mul_of_nonneg_right (show (1:Int)≤g by omega) (Int.le_of_lt hdpos)
      omega
     rw [hNe,hDe] at hin
     have i1:=(z86 gp).1 hin.1
     have i2:=(z86 gp).1 hin.2
     have bx:=w8m (Int.le_of_lt hdpos) i1 ka
     exact ⟨by omega,by omega,by simp only [Big,z0p] at*; omega,(z2k ha hdpos).2 i1,(z2k hb hdpos).2 i2⟩
theorem x37 {l:List Pt} {hs:List (List Pt)} (hf:z4l l hs) {m:List Pt} {ks:List (List Pt)} (hk:z4l m ks):(y0b (z06 (z07 l hs)) (z06 (z07 m ks))).isSome=z6m l hs m ks:=by
 have hne:=x2i (z3r hf.allNe) (z3r hk.allNe)
 have hD:=z2m hne
 have hin:z6m l hs m ks=true↔InH (dif (z06 (z07 l hs)) (z06 (z07 m ks))) (0,0) 1:=(z2k hD (by omega)).trans (z8i hD (by omega)).symm
 have ha:=z12 hf.cyc
 have hb:=z12 hk.cyc
 cases hv:y0b (z06 (z07 l hs)) (z06 (z07 m ks)) with
 |some v=>
  obtain ⟨h1,h2,h3,h4,h5⟩:=x5s hf hk hv
  symm
  exact hin.2 (y90 (by omega) ((z2k ha (by omega)).1 h4) ((z2k hb (by omega)).1 h5))
 |none=>
  symm
  rw [Option.isSome_none,Bool.eq_false_iff]
  intro hc
  obtain ⟨x,k,k0,k1,k2⟩:=w6o ha hb (hin.1 hc)
  have hm:=v7i ha hb k0 k1 k2
  unfold y0b at hv
  generalize z06 (z07 l hs)=a at*
  generalize z06 (z07 m ks)=b at*
  cases h1:a.find? fun p=>inC b p 1 with
  |some p=>rw [h1] at hv; cases hv
  |none=>
   rw [h1] at hv
   cases h2:b.find? fun q=>inC a q 1 with
   |some q=>rw [h2] at hv; cases hv
   |none=>
    rw [h2] at hv
    simp only at hv
    rcases hm with ⟨p,hp,hi⟩|⟨q,hq,hi⟩|⟨la,lb,s,hs,t,ht,hm⟩
    ·have:=List.find?_eq_none.1 h1 p hp
     exact this ((z2k hb (by omega)).2 hi)
    ·have:=List.find?_eq_none.1 h2 q hq
     exact this ((z2k ha (by omega)).2 hi)
    ·obtain ⟨i,hi,rfl⟩:=List.mem_map.1 hs
     obtain ⟨j,hj,rfl⟩:=List.mem_map.1 ht
     unfold y2s at hv
     rw [if_neg (by omega)] at hv
     have hrow:(z3a a b i).isSome=true:=by
      unfold z3a
      rw [if_neg (by omega)]
      cases h4:(List.range b.length).find? fun j=>x1u a b i j with
      |some j'=>rfl
      |none=>
       have:=List.find?_eq_none.1 h4 j hj
       exact absurd (show x1u a b i j=true from decide_eq_true (show z3z _ _ _ _ from hm)) this
     cases h3:(List.range a.length).find? fun i=>(z3a a b i).isSome with
     |none=>
      have:=List.find?_eq_none.1 h3 i hi
      exact this hrow
     |some i'=>
      rw [h3] at hv
      have:=List.find?_some h3
      simp only at hv
      cases h5:z3a a b i' with
      |none=>rw [h5] at this; cases this
      |some j'=>rw [h5] at hv; cases hv
theorem w0e {l:List Pt} {hs:List (List Pt)} (hf:z4l l hs) {m:List Pt} {ks:List (List Pt)} (hk:z4l m ks) (h:(z3i (z06 (z07 l hs)) (z06 (z07 m ks))).2=true):
  y1o (z3i (z06 (z07 l hs)) (z06 (z07 m ks))).1.1 (z3i (z06 (z07 l hs)) (z06 (z07 m ks))).1.2.1 (z3i (z06 (z07 l hs)) (z06 (z07 m ks))).1.2.2∧
  okL (z06 (z07 l hs)) (z06 (z07 m ks)) (z3i (z06 (z07 l hs)) (z06 (z07 m ks))).1.1 (z3i (z06 (z07 l hs)) (z06 (z07 m ks))).1.2.1 (z3i (z06 (z07 l hs)) (z06 (z07 m ks))).1.2.2∧
  z0p (-10000) 10000 ((z3i (z06 (z07 l hs)) (z06 (z07 m ks))).1.1,(z3i (z06 (z07 l hs)) (z06 (z07 m ks))).1.2.1):=by
 have ane:=z3r hf.allNe
 have bne:=z3r hk.allNe
 have ka:=hf.cbox
 have kb:=hk.cbox
 have kax:=x8t hf
 generalize z06 (z07 l hs)=a at*
 generalize z06 (z07 m ks)=b at*
 unfold z3i at*
 cases hfd:(z5c a b).find? fun w=>decide (y01 a b w) with
 |none=>rw [hfd] at h; cases h
 |some w=>
  simp only
  have hw:=List.mem_of_find?_eq_some hfd
  have hp0:=List.find?_some hfd
  have hp:y01 a b w:=of_decide_eq_true hp0
  have hbx:=y4t ka kb w hw
  have hsm:z1f w:=by simp only [z0p,z1f] at*; omega
  have hmx:=x33 ane hsm kax
  obtain ⟨m1,p,hpa,m2⟩:=z9q ane w
  have hw2:(w.1,w.2)=w:=rfl
  refine ⟨⟨fun e=>?_,?_⟩,⟨fun x hx=>m1 x hx,fun q hq=>?_⟩,hbx⟩
  ·obtain ⟨q,hq⟩:∃ q,q∈b:=by
    match b,bne with
    |q::r,_=>exact ⟨q,by simp⟩
   have:=hp p hpa q hq
   simp only [dt,e.1,e.2] at this
   omega
  ·simp only [z0p] at hbx; omega
  ·have:=hp p hpa q hq
   rw [m2]; exact this
theorem w3m {l:List Pt} {hs:List (List Pt)} (hf:z4l l hs) {m:List Pt} {ks:List (List Pt)} (hk:z4l m ks):
  x3y l hs m ks=if z6m l hs m ks=true then ((0,0,0),21) else ((z3i (z06 (z07 l hs)) (z06 (z07 m ks))).1,0):=by
 unfold x3y
 rw [if_neg (by simp [z1k.2 hf]),if_neg (by simp [z1k.2 hk]),y2y hf hk]
 cases z6m l hs m ks<;>rfl
theorem w0f {l:List Pt} {hs:List (List Pt)} (hf:z4l l hs) {m:List Pt} {ks:List (List Pt)} (hk:z4l m ks):
  (z6m l hs m ks=true∧∃ v,y0b (z06 (z07 l hs)) (z06 (z07 m ks))=some v∧y3f l hs m ks=(v,0))∨(z6m l hs m ks=false∧y3f l hs m ks=((0,0,0),5)):=by
 have h:=x37 hf hk
 unfold y3f
 rw [if_neg (by simp [z1k.2 hf]),if_neg (by simp [z1k.2 hk])]
 cases hv:y0b (z06 (z07 l hs)) (z06 (z07 m ks)) with
 |some v=>rw [hv] at h; exact .inl ⟨h.symm,v,rfl,rfl⟩
 |none=>rw [hv] at h; exact .inr ⟨h.symm,rfl⟩
theorem w95 {l:List Pt} {hs:List (List Pt)} (hf:z4l l hs) {m:List Pt} {ks:List (List Pt)} (hk:z4l m ks) {v:Int×Int×Int} (h:y0b (z06 (z07 l hs)) (z06 (z07 m ks))=some v):y6p l hs m ks (v.1,v.2.1) v.2.2=0:=by
 obtain ⟨h1,h2,h3,h4,h5⟩:=x5s hf hk h
 unfold y6p
 rw [if_neg (by simp [z1k.2 hf]),if_neg (by simp [z1k.2 hk]),if_neg (by simp only [Classical.not_not]; exact ⟨h1,h2,h3⟩),if_pos ⟨h4,h5⟩]
theorem w44 {l:List Pt} {hs:List (List Pt)} (hf:z4l l hs) {m:List Pt} {ks:List (List Pt)} (hk:z4l m ks) (h:z6m l hs m ks=false):
  y3j l hs m ks (z3i (z06 (z07 l hs)) (z06 (z07 m ks))).1.1 (z3i (z06 (z07 l hs)) (z06 (z07 m ks))).1.2.1 (z3i (z06 (z07 l hs)) (z06 (z07 m ks))).1.2.2=0:=by
 obtain ⟨h1,h2,_⟩:=w0e hf hk (by rw [y2y hf hk,h]; rfl)
 unfold y3j
 rw [if_neg (by simp [z1k.2 hf]),if_neg (by simp [z1k.2 hk]),if_neg (by simp only [Classical.not_not]; exact h1),if_pos h2]
theorem w96 {l:List Pt} {hs:List (List Pt)} (hf:z4l l hs) {m:List Pt} {ks:List (List Pt)} (hk:z4l m ks) (h:z6m l hs m ks=false) (p:Pt) (den:Int):y6p l hs m ks p den≠0:=by
 have hne:=x2i (z3r hf.allNe) (z3r hk.allNe)
 have hD:=z2m hne
 have hin:z6m l hs m ks=true↔InH (dif (z06 (z07 l hs)) (z06 (z07 m ks))) (0,0) 1:=(z2k hD (by omega)).trans (z8i hD (by omega)).symm
 unfold y6p
 rw [if_neg (by simp [z1k.2 hf]),if_neg (by simp [z1k.2 hk])]
 split
 ·omega
 ·rename_i hg
  simp only [Classical.not_not] at hg
  split
  ·rename_i hi
   exfalso
   have:=hin.2 (y90 (by omega) ((z2k (z12 hf.cyc) (by omega)).1 hi.1) ((z2k (z12 hk.cyc) (by omega)).1 hi.2))
   rw [h] at this; cases this
  ·omega
theorem w45 {l:List Pt} {hs:List (List Pt)} (hf:z4l l hs) {m:List Pt} {ks:List (List Pt)} (hk:z4l m ks) (h:z6m l hs m ks=true) (A B C:Int):y3j l hs m ks A B C≠0:=by
 have hne:=x2i (z3r hf.allNe) (z3r hk.allNe)
 have hD:=z2m hne
 have hin:z6m l hs m ks=true↔InH (dif (z06 (z07 l hs)) (z06 (z07 m ks))) (0,0) 1:=(z2k hD (by omega)).trans (z8i hD (by omega)).symm
 obtain ⟨x,k,k0,k1,k2⟩:=w6o (z12 hf.cyc) (z12 hk.cyc) (hin.1 h)
 unfold y3j
 rw [if_neg (by simp [z1k.2 hf]),if_neg (by simp [z1k.2 hk])]
 split
 ·omega
 ·split
  ·rename_i ho
   exact absurd ho (fun ho=>w70 k0 k1 k2 ho)
  ·omega
end Go.Am
end
section
namespace Go.Am
open M06
theorem x6y (l:List Pt) (hs:List (List Pt)) (m:List Pt) (ks:List (List Pt)) (p:Pt) (den:Int):
  G40 std (z0d l,z1m hs,z0d m,z1m ks,p.1,p.2,den,())=some (y6p l hs m ks p den,()):=by
 unfold G40 y6p
 by_cases h:z5o l hs=0
 case neg=>
  have h62:g62 it0 std (z0d l,z1m hs,z0d m,z1m ks,())=_:=y4k h m ks
  simp only [g40,z0m,z0n,h62,h,not_false_eq_true,ne_eq]
 have hf:=z1k.1 h
 by_cases h':z5o m ks=0
 case neg=>
  have h62:g62 it0 std (z0d l,z1m hs,z0d m,z1m ks,())=_:=y4j hf h'
  simp only [g40,z0m,z0n,h62,h,h',not_false_eq_true,ne_eq,not_true]
 have hk:=z1k.1 h'
 have h62:g62 it0 std (z0d l,z1m hs,z0d m,z1m ks,())=_:=x6s hf hk
 by_cases d1:den<1
 ·have:¬ (1≤den∧den≤268435456∧Big p):=fun h=>by omega
  simp only [g40,z0m,z0n,h62,h,h',d1,this,not_false_eq_true,ne_eq,not_true]
 by_cases d2:den>268435456
 ·have:¬ (1≤den∧den≤268435456∧Big p):=fun h=>by omega
  simp only [g40,z0m,z0n,h62,h,h',d1,d2,this,not_false_eq_true,ne_eq,not_true]
 have h53:=v0e p
 by_cases hb:Big p
 case neg=>
  have:¬ (1≤den∧den≤268435456∧Big p):=fun h=>hb h.2.2
  simp only [g40,z0m,z0n,h62,h,h',d1,d2,this,List.drop_zero,List.take_succ_cons,List.take_zero,y8x,y37,h53,hb,Nat.le_refl,z0c,not_false_eq_true,ne_eq,not_true,and_false]
 have hden:1≤den∧den≤268435456∧Big p:=⟨by omega,by omega,hb⟩
 have i1:=x6t hf hb (den:=den) (by omega) (by omega)
 have i2:=x6t hk hb (den:=den) (by omega) (by omega)
 by_cases k1:inC (z06 (z07 l hs)) p den=true
 ·by_cases k2:inC (z06 (z07 m ks)) p den=true
  ·simp only [g40,z0m,z0n,h62,h,h',d1,d2,hden,List.drop_zero,List.take_succ_cons,List.take_zero,y8x,y37,h53,hb,Nat.le_refl,z0c,i1,i2,k1,k2,not_false_eq_true,ne_eq,not_true,and_self]
  ·have k2':inC (z06 (z07 m ks)) p den=false:=by simpa using k2
   simp only [g40,z0m,z0n,h62,h,h',d1,d2,hden,List.drop_zero,List.take_succ_cons,List.take_zero,y8x,y37,h53,hb,Nat.le_refl,z0c,i1,i2,k1,k2',not_false_eq_true,ne_eq,not_true,and_self,and_false]
 ·have k1':inC (z06 (z07 l hs)) p den=false:=by simpa using k1
  simp only [g40,z0m,z0n,h62,h,h',d1,d2,hden,List.drop_zero,List.take_succ_cons,List.take_zero,y8x,y37,h53,hb,Nat.le_refl,z0c,i1,i2,k1',not_false_eq_true,ne_eq,not_true,false_and,and_self,Bool.false_eq_true]
end Go.Am
end
section
namespace Go.Am
open M06
theorem z7x (l:List Int):(y1u l).length=l.length:=by simp [y1u]
theorem w1e {l:List Int} {i:Nat} {n:Int} (h:l[i]?=some n):(y1u l)[i]?=some (eB n):=by simp [y1u,h]
theorem w46 (n:Int):z3m [CK.int IntKind.u8] (eB n)=true:=rfl
theorem v9v (n:Int):dI ((eB n)[0]?.getD D.nilp)=n:=rfl
theorem y8a {n:Int} (h:(Lit.int IntKind.u8 n).wf=true):0≤n∧n≤255:=by
 have h:IntKind.u8.min≤n∧n≤IntKind.u8.max:=by simpa [Lit.wf] using h
 have e1:IntKind.u8.min=0:=rfl
 have e2:IntKind.u8.max=255:=rfl
 omega
theorem w6x {l:List Pt} (hl:l≠[]) (hll:l.length≤1000) (hb:∀ x∈l,z0p (-1000) 1000 x) {n:Nat} (hn:n≤20) {bs:List Int} (hbs:∀ b∈bs,(Lit.int IntKind.u8 b).wf=true) (hbl:bs.length≤1000) {at':Nat} (hat:at'≤1000):
  ∃ ks:List Pt,G75 std (z0d l,(n:Int),y1u bs,(at':Int),())=some ((z1j ks).1,(z1j ks).2,())∧ks.length=n∧∀ x∈ks,x∈l:=by
 have hl1:1≤l.length:=List.length_pos_iff.2 hl
 have key:=z4z (b:=w2d std) n (fun (ks:List Pt) (i:Nat)=>((0:Int),(0:Int),(z1j ks).1,(z1j ks).2,z0d l,(n:Int),y1u bs,(at':Int),(i:Int),())) (fun ks i=>ks.length=i∧∀ x∈ks,x∈l)
  (fun r=>∃ ks:List Pt,r=((0:Int),(0:Int),(z1j ks).1,(z1j ks).2,())∧ks.length=n∧∀ x∈ks,x∈l) (fun ks i hi ⟨h1,h2⟩=>by
  left
  have c1:(i:Int)<(n:Int):=by omega
  have c2:(i:Int)≥0:=by omega
  have hw:=z1c (i:=i) (by omega)
  have hsum:∀ ks:List Pt,ks.length≤20→(∀ x∈ks,x∈l)→z0p (-20000) 20000 (z1j ks):=by
   intro ks
   have:∀ ks:List Pt,(∀ x∈ks,x∈l)→z0p (-(1000*(ks.length:Int))) (1000*(ks.length:Int)) (z1j ks):=by
    intro ks
    induction ks with
    |nil=>intro _; simp [z1j,z0p]
    |cons x ks ih=>
     intro h
     have b1:=hb x (h x (by simp))
     have b2:=ih (fun y hy=>h y (List.mem_cons_of_mem _ hy))
     rw [z01]
     simp only [z0p,ad,List.length_cons] at*
     omega
   intro hk h
   have:=this ks h
   simp only [z0p] at*
   omega
  have hb0:=hsum ks (by omega) h2
  have fin:∀ (j:Nat) (x:Pt),l[j]?=some x→IntKind.i64.wrap ((z1j ks).1+x.1)=(z1j (x::ks)).1∧IntKind.i64.wrap ((z1j ks).2+x.2)=(z1j (x::ks)).2:=by
   intro j x hx
   have b1:=hb x (List.mem_of_getElem? hx)
   rw [z01]
   simp only [z0p,ad] at*
   exact ⟨by rw [z00]<;>omega,by rw [z00]<;>omega⟩
  by_cases h0:bs.length=0
  ·obtain ⟨x,hx⟩:=z0l (l:=l) (i:=0) (by omega)
   obtain ⟨f1,f2⟩:=fin 0 x hx
   refine ⟨x::ks,?_,by simp [h1],fun y hy=>?_⟩
   ·have c3:¬ (bs.length:Int)>0:=by omega
    have gx:=z0v hx
    simp only [w2d,z0m,z0n,z0g,z0u,z0t,z1b,z0i,z0c,z7x,z0a,hw,c1,c2,c3,Int.toNat_zero,gx,f1,f2,ge_iff_le,Int.le_refl]
   ·rcases List.mem_cons.1 hy with rfl|hy
    ·exact List.mem_of_getElem? hx
    ·exact h2 y hy
  ·obtain ⟨b,hbb⟩:=z0l (l:=bs) (i:=(at'+i) % bs.length) (Nat.mod_lt _ (by omega))
   have hbr:=y8a (hbs b (List.mem_of_getElem? hbb))
   obtain ⟨x,hx⟩:=z0l (l:=l) (i:=b.toNat % l.length) (Nat.mod_lt _ (by omega))
   obtain ⟨f1,f2⟩:=fin _ x hx
   refine ⟨x::ks,?_,by simp [h1],fun y hy=>?_⟩
   ·have c3:(bs.length:Int)>0:=by omega
    have c4:¬ (bs.length:Int)=0:=by omega
    have c5:¬ (l.length:Int)=0:=by omega
    have w1:IntKind.i64.wrap ((at':Int)+(i:Int))=((at'+i:Nat):Int):=by rw [z00]<;>omega
    have w2:(((at'+i:Nat):Int)).tmod (bs.length:Int)=(((at'+i) % bs.length:Nat):Int):=by
     rw [Int.tmod_eq_emod_of_nonneg (by omega)]; rfl
    have w3:IntKind.i64.wrap b=b:=by rw [z00]<;>omega
    have w4:b.tmod (l.length:Int)=((b.toNat % l.length:Nat):Int):=by
     have:b=(b.toNat:Int):=by omega
     rw [this,Int.tmod_eq_emod_of_nonneg (by omega)]
     simp
    have c6:(((at'+i) % bs.length:Nat):Int)≥0:=by omega
    have c7:((b.toNat % l.length:Nat):Int)≥0:=by omega
    have gx:=z0v hx
    have gb:=w1e hbb
    simp only [w2d,z0m,z0n,z0g,z0u,z0t,z1b,z0i,z0c,z7x,w46,v9v,z0a,z03,hw,c1,c2,c3,c4,c5,c6,c7,w1,w2,w3,w4,gx,gb,f1,f2,not_false_eq_true]
   ·rcases List.mem_cons.1 hy with rfl|hy
    ·exact List.mem_of_getElem? hx
    ·exact h2 y hy) (fun ks ⟨h1,h2⟩=>by
  have hn':¬ ((n:Int)<(n:Int)):=by omega
  exact ⟨((0:Int),(0:Int),(z1j ks).1,(z1j ks).2,()),by simp only [w2d,z0m,z0n,hn'],ks,rfl,h1,h2⟩) [] 0 (Nat.zero_le _) ⟨rfl,by simp⟩
 obtain ⟨r,h1,ks,h2,h3,h4⟩:=key
 subst h2
 refine ⟨ks,?_,h3,h4⟩
 unfold G75
 have e0:(z1j ([]:List Pt)).1=0:=rfl
 have e1:(z1j ([]:List Pt)).2=0:=rfl
 have k0:((0:Nat):Int)=0:=rfl
 rw [e0,e1,k0] at h1
 simp only [g75,it0_eq,z0m,z0n,h1]
theorem x9c:∀ {a b:List Pt},a.length=b.length→z1j (List.zipWith ad a b)=ad (z1j a) (z1j b)
 |[],[],_=>rfl
 |x::a,y::b,h=>by
  have:=x9c (a:=a) (b:=b) (by simpa using h)
  rw [List.zipWith_cons_cons,z01,z01,z01,this]
  simp only [ad]; exact Prod.ext (by simp; omega) (by simp; omega)
theorem x83 {A B a b:List Pt} (ha:∀ x∈a,x∈A) (hb:∀ x∈b,x∈B):∀ z∈List.zipWith ad a b,z∈z3f A B:=by
 intro z hz
 obtain ⟨i,hi⟩:=List.getElem?_of_mem hz
 rw [List.getElem?_zipWith] at hi
 cases h1:a[i]? with
 |none=>simp [h1] at hi
 |some x=>
  cases h2:b[i]? with
  |none=>simp [h1,h2] at hi
  |some y=>
   simp [h1,h2] at hi
   exact (z6i z).2 ⟨x,ha x (List.mem_of_getElem? h1),y,hb y (List.mem_of_getElem? h2),hi.symm⟩
def z33 (n:Int):Int:=1+n % 20
theorem x4t {A:List Pt} (hA:∀ x∈A,z0p (-5000) 5000 x):∀ {ks:List Pt},ks.length≤20→(∀ x∈ks,x∈A)→z0p (-100000) 100000 (z1j ks):=by
 have:∀ ks:List Pt,(∀ x∈ks,x∈A)→z0p (-(5000*(ks.length:Int))) (5000*(ks.length:Int)) (z1j ks):=by
  intro ks
  induction ks with
  |nil=>intro _; simp [z1j,z0p]
  |cons x ks ih=>
   intro h
   have b1:=hA x (h x (by simp))
   have b2:=ih (fun y hy=>h y (List.mem_cons_of_mem _ hy))
   rw [z01]
   simp only [z0p,ad,List.length_cons] at*
   omega
 intro ks hk h
 have:=this ks h
 simp only [z0p] at*
 omega
theorem w64 {l:List Pt} {hs:List (List Pt)} (hf:z4l l hs) {n:Int} (hn:(Lit.int IntKind.u8 n).wf=true) {bs:List Int} (hbs:∀ b∈bs,(Lit.int IntKind.u8 b).wf=true) (hbl:bs.length≤1000):
  ∃ ks:List Pt,G33 std (z0d l,z1m hs,n,y1u bs,())=some ((z1j ks).1,(z1j ks).2,z33 n,())∧(ks.length:Int)=z33 n∧(∀ x∈ks,x∈z07 l hs):=by
 have hr:=y8a hn
 obtain ⟨m,hm⟩:∃ m:Nat,(m:Int)=z33 n:=⟨(z33 n).toNat,by unfold z33; omega⟩
 have hm20:m≤20:=by unfold z33 at hm; omega
 have hlb:∀ x∈l,z0p (-1000) 1000 x:=fun x hx=>by obtain ⟨a,b,c,d⟩:=hf.box x hx; exact ⟨by omega,by omega,by omega,by omega⟩
 obtain ⟨k0,h1,h2,h3⟩:=w6x hf.ne (by have:=hf.many.2; omega) hlb hm20 hbs hbl (at':=0) (by omega)
 have key:=z4z (b:=w48 it0 std) hs.length (fun (ks:List Pt) (i:Nat)=>(z0d l,z1m hs,(0:Int),(0:Int),(0:Int),(z1j ks).1,(z1j ks).2,y1u bs,(m:Int),(i:Int),())) (fun ks i=>ks.length=m∧∀ x∈ks,x∈z07 l (hs.take i))
  (fun r=>∃ ks:List Pt,r=((0:Int),(0:Int),(0:Int),(z1j ks).1,(z1j ks).2,(m:Int),())∧ks.length=m∧∀ x∈ks,x∈z07 l hs) (fun ks i hi ⟨i1,i2⟩=>by
  left
  obtain ⟨h,hh⟩:=z0l hi
  have hmem:=List.mem_of_getElem? hh
  have gh:=y9e hh
  have h4:=hf.few
  have him:(i+1)*m≤5*20:=Nat.mul_le_mul (by omega) hm20
  obtain ⟨qs,q1,q2,q3⟩:=w6x (hf.neH h hmem) (by have:=(hf.manyH h hmem).2; omega) (hf.boxH h hmem) hm20 hbs hbl (at':=(i+1)*m) (by omega)
  have c1:(i:Int)<(hs.length:Int):=by omega
  have c2:(i:Int)≥0:=by omega
  have hw:=z1c (i:=i) (by omega)
  have hw2:IntKind.i64.wrap (((i+1:Nat):Int)*(m:Int))=(((i+1)*m:Nat):Int):=by
   rw [←Int.natCast_mul]
   rw [z00]<;>omega
  have b1:=x4t (hf.take i).boxA (ks:=ks) (by omega) i2
  have b2:=x4t (A:=h) (fun x hx=>by obtain ⟨a,b,c,d⟩:=hf.boxH h hmem x hx; exact ⟨by omega,by omega,by omega,by omega⟩) (ks:=qs) (by omega) q3
  have e1:(z1j (List.zipWith ad ks qs))=ad (z1j ks) (z1j qs):=x9c (by omega)
  have w1:IntKind.i64.wrap ((z1j ks).1+(z1j qs).1)=(z1j (List.zipWith ad ks qs)).1:=by
   rw [e1]; simp only [z0p,ad] at*; rw [z00]<;>omega
  have w2:IntKind.i64.wrap ((z1j ks).2+(z1j qs).2)=(z1j (List.zipWith ad ks qs)).2:=by
   rw [e1]; simp only [z0p,ad] at*; rw [z00]<;>omega
  refine ⟨List.zipWith ad ks qs,?_,by simp; omega,?_⟩
  ·have q1':g75 it0 std (z0d h,(m:Int),y1u bs,(((i+1)*m:Nat):Int),())=_:=q1
   simp only [w48,z0m,z0n,y1t,z0a,z0r,hw,hw2,c1,c2,gh,z64,x2l,q1',w1,w2]
  ·rw [z58 hh,y16]
   exact x83 i2 q3) (fun ks ⟨i1,i2⟩=>by
  have hn':¬ ((hs.length:Int)<(hs.length:Int)):=by omega
  rw [List.take_length] at i2
  exact ⟨((0:Int),(0:Int),(0:Int),(z1j ks).1,(z1j ks).2,(m:Int),()),by simp only [w48,z0m,z0n,y1t,hn'],ks,rfl,i1,i2⟩) k0 0 (Nat.zero_le _) ⟨h2,h3⟩
 obtain ⟨r,r1,ks,r2,r3,r4⟩:=key
 subst r2
 refine ⟨ks,?_,by rw [r3,hm],r4⟩
 unfold G33
 have w1:IntKind.i64.wrap n=n:=by rw [z00]<;>omega
 have w2:n.tmod 20=n % 20:=Int.tmod_eq_emod_of_nonneg hr.1
 have w3:IntKind.i64.wrap (1+n % 20)=(m:Int):=by
  rw [hm]; unfold z33; rw [z00]<;>omega
 have h1':g75 it0 std (z0d l,(m:Int),y1u bs,0,())=_:=h1
 have k0':((0:Nat):Int)=0:=rfl
 rw [k0'] at r1
 rw [←hm]
 simp only [g33,it0_eq,z0m,z0n,z0a,z03,w1,w2,w3,h1',r1,show ¬ (20:Int)=0 by decide,not_false_eq_true]
theorem w30 {S c:List Pt} (hc:Cyc S c) {ks:List Pt} (h:∀ x∈ks,x∈S):InH c (z1j ks) (ks.length:Int):=by
 intro d
 obtain ⟨a,ha,hall⟩:=x4j hc d
 refine ⟨a,ha,?_⟩
 have:∀ ks:List Pt,(∀ x∈ks,x∈S)→0≤crs d (sb (z1j ks) (ml a (ks.length:Int))):=by
  intro ks
  induction ks with
  |nil=>intro _; simp [z1j,ml,crs,sb]
  |cons x ks ih=>
   intro h
   have h1:=hall x (h x (by simp))
   have h2:=ih (fun y hy=>h y (List.mem_cons_of_mem _ hy))
   have e:crs d (sb (z1j (x::ks)) (ml a ((x::ks).length:Int)))=crs d (sb x a)+crs d (sb (z1j ks) (ml a (ks.length:Int))):=by
    rw [z01]
    simp only [crs,sb,ml,ad,List.length_cons]
    have:(((ks.length+1:Nat)):Int)=(ks.length:Int)+1:=by omega
    rw [this]; grind
   omega
 exact this ks h
theorem InH.trans {S T:List Pt} {p:Pt} {k:Int} (hk:0≤k) (h:InH S p k) (hs:∀ x∈S,InH T x 1):InH T p k:=by
 intro d
 obtain ⟨x,hx,h0⟩:=h d
 obtain ⟨y,hy,h1⟩:=hs x hx d
 refine ⟨y,hy,?_⟩
 rw [x9q p x y k d]
 have e:crs d (sb x (ml y 1))=crs d (sb x y):=by simp [ml]
 rw [e] at h1
 have:=Int.mul_nonneg hk h1
 omega
theorem x3x {n:Int} (hn:(Lit.int IntKind.u8 n).wf=true):1≤z33 n∧z33 n≤20:=by
 have:=y8a hn
 unfold z33; omega
end Go.Am
end
noncomputable section
namespace Go.Am
def v9w:Ctr:=
 ⟨10,[.agg [.list 2, .list 1], .agg [.list 2, .list 1], .agg [.int .i64, .int .i64, .int .i64], .agg [.int .i64, .int .i64, .int .i64], .int .u8, .list 1, .list 1],[],[(.ret,⟨[(0, .bool)],[],1⟩)]⟩
def la10:List LA:=
 []
def ja10:List JA:=
 [⟨10,[false,false,true,true,true,true,true],0,[(AX.normal,⟨[(7, .bptr 0 0),(8, .bptr 1 0),(9, .bptr 2 0),(10, .bptr 3 0),(15, .bptr 4 0),(16, .int .i64),(17, .bptr 5 0),(18, .int .i64),(19, .bptr 6 0),(20, .bptr 7 0),(71, .bool)],[.box [.list 2, .list 1], .box [.list 2, .list 1], .box [.int .i64, .int .i64, .int .i64], .box [.int .i64, .int .i64, .int .i64], .box [.int .i64, .int .i64, .int .i64], .box [.int .i64, .int .i64, .int .i64], .box [.int .i64, .int .i64, .int .i64], .box [.int .i64, .int .i64, .int .i64]],173⟩)]⟩,
 ⟨10,[false,true,true,true,true,true,true,true],0,[(AX.normal,⟨[(14, .bool)],[],173⟩)]⟩,
 ⟨10,[false,false,true],0,[(AX.normal,⟨[(4, .int .u8),(5, .list 1),(6, .list 1),(7, .bptr 0 0),(8, .bptr 1 0),(9, .bptr 2 0),(10, .bptr 3 0),(38, .bool)],[.box [.list 2, .list 1], .box [.list 2, .list 1], .box [.int .i64, .int .i64, .int .i64], .box [.int .i64, .int .i64, .int .i64]],173⟩)]⟩,
 ⟨10,[false,false,true,false,true,true,true,true,true,true],0,[(AX.normal,⟨[(14, .bool)],[],173⟩)]⟩]
def v9p:List CF:=
 [⟨w9m,G38⟩,⟨w9o,G36⟩,⟨w9l,G39⟩,⟨v4i,G40⟩,⟨v4j,G33⟩,⟨w9n,G37⟩,⟨w9p,G32⟩,⟨v4s,G15⟩,⟨v4k,G29⟩]
def an10:Anns:=
 ⟨v9p,ja10,[]⟩
def G10:(p:Prim)→(LD×(LD×(LD×(LD×(Int×(Int×(Int×(Int×(Int×(Int×(Int×(LD×(LD×Unit)))))))))))))→Option T1:=
 fun p x=>
 opt.bnd ((LD×(LD×(LD×(LD×T89))))) _ (
 opt.run ((LD×(LD×(LD×(LD×T89))))) (
 opt.bnd T1 _ (G29 p (x.1,(x.2.1,()))) fun a=>
 opt.ask _ (bif a.1 then Bool.false else Bool.true) (
 opt.ret _ (x.1,(x.2.1,(x.2.2.1,(x.2.2.2.1,(x.2.2.2.2.1,(x.2.2.2.2.2.1,(x.2.2.2.2.2.2.1,(x.2.2.2.2.2.2.2.1,(x.2.2.2.2.2.2.2.2.1,(x.2.2.2.2.2.2.2.2.2.1,(x.2.2.2.2.2.2.2.2.2.2.1,(x.2.2.2.2.2.2.2.2.2.2.2.1,(x.2.2.2.2.2.2.2.2.2.2.2.2.1,(Bool.true,()))))))))))))))) (
 opt.bnd T1 _ (G29 p (x.2.2.1,(x.2.2.2.1,()))) fun b=>
 opt.ask _ (bif b.1 then Bool.false else Bool.true) (
 opt.ret _ (x.1,(x.2.1,(x.2.2.1,(x.2.2.2.1,(x.2.2.2.2.1,(x.2.2.2.2.2.1,(x.2.2.2.2.2.2.1,(x.2.2.2.2.2.2.2.1,(x.2.2.2.2.2.2.2.2.1,(x.2.2.2.2.2.2.2.2.2.1,(x.2.2.2.2.2.2.2.2.2.2.1,(x.2.2.2.2.2.2.2.2.2.2.2.1,(x.2.2.2.2.2.2.2.2.2.2.2.2.1,(Bool.true,()))))))))))))))) (
 opt.ask _ (p.cmp .gtr (p.ofNat (p.len x.2.2.2.2.2.2.2.2.2.2.2.1)) (50:Int)) (
 opt.ret _ (x.1,(x.2.1,(x.2.2.1,(x.2.2.2.1,(x.2.2.2.2.1,(x.2.2.2.2.2.1,(x.2.2.2.2.2.2.1,(x.2.2.2.2.2.2.2.1,(x.2.2.2.2.2.2.2.2.1,(x.2.2.2.2.2.2.2.2.2.1,(x.2.2.2.2.2.2.2.2.2.2.1,(x.2.2.2.2.2.2.2.2.2.2.2.1,(x.2.2.2.2.2.2.2.2.2.2.2.2.1,(Bool.true,()))))))))))))))) (
 opt.ret _ (x.1,(x.2.1,(x.2.2.1,(x.2.2.2.1,(x.2.2.2.2.1,(x.2.2.2.2.2.1,(x.2.2.2.2.2.2.1,(x.2.2.2.2.2.2.2.1,(x.2.2.2.2.2.2.2.2.1,(x.2.2.2.2.2.2.2.2.2.1,(x.2.2.2.2.2.2.2.2.2.2.1,(x.2.2.2.2.2.2.2.2.2.2.2.1,(x.2.2.2.2.2.2.2.2.2.2.2.2.1,((p.cmp .gtr (p.ofNat (p.len x.2.2.2.2.2.2.2.2.2.2.2.2.1)) (50:Int)),()))))))))))))))))))) fun c=>
 opt.ask _ c.2.2.2.2.2.2.2.2.2.2.2.2.2.1 (
 opt.bnd T1 _ (G15 p ()) fun d=>
 opt.ret _ (d.1,())) (
 opt.bnd T8 _ (G32 p (c.1,(c.2.1,(c.2.2.1,(c.2.2.2.1,()))))) fun e=>
 opt.bnd T8 _ (G37 p (c.1,(c.2.1,(c.2.2.1,(c.2.2.2.1,()))))) fun f=>
 opt.bnd T6 _ (G33 p (c.1,(c.2.1,(c.2.2.2.2.2.2.2.2.2.2.1,(c.2.2.2.2.2.2.2.2.2.2.2.1,()))))) fun g=>
 opt.bnd T6 _ (G33 p (c.2.2.1,(c.2.2.2.1,(c.2.2.2.2.2.2.2.2.2.2.1,(c.2.2.2.2.2.2.2.2.2.2.2.2.1,()))))) fun h=>
 opt.bnd ((LD×(LD×(LD×(LD×T90))))) _ (
 opt.run ((LD×(LD×(LD×(LD×T90))))) (
 opt.bnd T0 _ (G40 p (c.1,(c.2.1,(c.1,(c.2.1,(g.1,(g.2.1,(g.2.2.1,())))))))) fun i=>
 opt.ask _ (p.cmp .neq i.1 (0:Int)) (
 opt.ret _ (c.1,(c.2.1,(c.2.2.1,(c.2.2.2.1,(c.2.2.2.2.1,(c.2.2.2.2.2.1,(c.2.2.2.2.2.2.1,(c.2.2.2.2.2.2.2.1,(c.2.2.2.2.2.2.2.2.1,(c.2.2.2.2.2.2.2.2.2.1,(e.1,(e.2.1,(e.2.2.1,(f.1,(f.2.1,(f.2.2.1,(g.1,(g.2.1,(g.2.2.1,(h.1,(h.2.1,(h.2.2.1,(e.2.2.2.1,(f.2.2.2.1,(Bool.true,())))))))))))))))))))))))))) (
 opt.bnd T0 _ (G40 p (c.2.2.1,(c.2.2.2.1,(c.2.2.1,(c.2.2.2.1,(h.1,(h.2.1,(h.2.2.1,())))))))) fun j=>
 opt.ret _ (c.1,(c.2.1,(c.2.2.1,(c.2.2.2.1,(c.2.2.2.2.1,(c.2.2.2.2.2.1,(c.2.2.2.2.2.2.1,(c.2.2.2.2.2.2.2.1,(c.2.2.2.2.2.2.2.2.1,(c.2.2.2.2.2.2.2.2.2.1,(e.1,(e.2.1,(e.2.2.1,(f.1,(f.2.1,(f.2.2.1,(g.1,(g.2.1,(g.2.2.1,(h.1,(h.2.1,(h.2.2.1,(e.2.2.2.1,(f.2.2.2.1,((p.cmp .neq j.1 (0:Int)),())))))))))))))))))))))))))))) fun k=>
 opt.ask _ k.2.2.2.2.2.2.2.2.2.2.2.2.2.2.2.2.2.2.2.2.2.2.2.2.1 (
 opt.ret _ (Bool.false,())) (
 opt.ask _ (p.cmp .eql k.2.2.2.2.2.2.2.2.2.2.2.2.2.2.2.2.2.2.2.2.2.2.1 (0:Int)) (
 opt.bnd T1 _ (
 opt.run T1 (
 opt.ask _ (p.cmp .eql k.2.2.2.2.2.2.2.2.2.2.2.2.2.2.2.2.2.2.2.2.2.2.2.1 (5:Int)) (
 opt.bnd T0 _ (G39 p (k.1,(k.2.1,(k.2.2.1,(k.2.2.2.1,(k.2.2.2.2.2.2.2.2.2.2.1,(k.2.2.2.2.2.2.2.2.2.2.2.1,(k.2.2.2.2.2.2.2.2.2.2.2.2.1,())))))))) fun l=>
 opt.ask _ (p.cmp .eql l.1 (0:Int)) (
 opt.bnd T0 _ (G36 p (k.1,(k.2.1,(k.2.2.1,(k.2.2.2.1,(k.2.2.2.2.2.2.2.2.2.2.1,(k.2.2.2.2.2.2.2.2.2.2.2.1,(k.2.2.2.2.2.2.2.2.2.2.2.2.1,())))))))) fun m=>
 opt.ask _ (p.cmp .eql m.1 (0:Int)) (
 opt.bnd T0 _ (G40 p (k.1,(k.2.1,(k.2.2.1,(k.2.2.2.1,(k.2.2.2.2.2.2.2.1,(k.2.2.2.2.2.2.2.2.1,(k.2.2.2.2.2.2.2.2.2.1,())))))))) fun n=>
 opt.ask _ (p.cmp .neq n.1 (0:Int)) (
 opt.ask _ (bif (bif (p.cmp .eql k.2.2.2.2.2.2.2.2.2.2.2.2.2.2.2.2.1 k.2.2.2.2.2.2.2.2.2.2.2.2.2.2.2.2.2.2.2.1) then (bif (p.cmp .eql k.2.2.2.2.2.2.2.2.2.2.2.2.2.2.2.2.2.1 k.2.2.2.2.2.2.2.2.2.2.2.2.2.2.2.2.2.2.2.2.1) then (bif (p.cmp .eql k.2.2.2.2.2.2.2.2.2.2.2.2.2.2.2.2.2.2.1 k.2.2.2.2.2.2.2.2.2.2.2.2.2.2.2.2.2.2.2.2.2.1) then Bool.true else Bool.false) else Bool.false) else Bool.false) then Bool.false else Bool.true) (
 opt.ask _ (p.cmp .leq (p.ar .add .i64 (p.ar .mul .i64 k.2.2.2.2.2.2.2.2.2.2.1 k.2.2.2.2.2.2.2.2.2.2.2.2.2.2.2.2.1) (p.ar .mul .i64 k.2.2.2.2.2.2.2.2.2.2.2.1 k.2.2.2.2.2.2.2.2.2.2.2.2.2.2.2.2.2.1)) (p.ar .mul .i64 k.2.2.2.2.2.2.2.2.2.2.2.2.1 k.2.2.2.2.2.2.2.2.2.2.2.2.2.2.2.2.2.2.1)) (
 opt.ask _ (p.cmp .gtr (p.ar .add .i64 (p.ar .mul .i64 k.2.2.2.2.2.2.2.2.2.2.1 k.2.2.2.2.2.2.2.2.2.2.2.2.2.2.2.2.2.2.2.1) (p.ar .mul .i64 k.2.2.2.2.2.2.2.2.2.2.2.1 k.2.2.2.2.2.2.2.2.2.2.2.2.2.2.2.2.2.2.2.2.1)) (p.ar .mul .i64 k.2.2.2.2.2.2.2.2.2.2.2.2.1 k.2.2.2.2.2.2.2.2.2.2.2.2.2.2.2.2.2.2.2.2.2.1)) (
 opt.bnd T1 _ (G15 p ()) fun o=>
 opt.ret _ (o.1,())) (
 opt.ret _ (Bool.false,()))) (
 opt.ret _ (Bool.false,()))) (
 opt.ret _ (Bool.false,()))) (
 opt.ret _ (Bool.false,()))) (
 opt.ret _ (Bool.false,()))) (
 opt.ret _ (Bool.false,()))) (
 opt.ret _ (Bool.false,())))) fun q=>
 opt.ret _ (q.1,())) (
 opt.bnd T1 _ (
 opt.run T1 (
 opt.ask _ (p.cmp .eql k.2.2.2.2.2.2.2.2.2.2.2.2.2.2.2.2.2.2.2.2.2.2.1 (21:Int)) (
 opt.ask _ (p.cmp .eql k.2.2.2.2.2.2.2.2.2.2.2.2.2.2.2.2.2.2.2.2.2.2.2.1 (0:Int)) (
 opt.bnd T0 _ (G40 p (k.1,(k.2.1,(k.2.2.1,(k.2.2.2.1,(k.2.2.2.2.2.2.2.2.2.2.2.2.2.1,(k.2.2.2.2.2.2.2.2.2.2.2.2.2.2.1,(k.2.2.2.2.2.2.2.2.2.2.2.2.2.2.2.1,())))))))) fun r=>
 opt.ask _ (p.cmp .eql r.1 (0:Int)) (
 opt.bnd T0 _ (G38 p (k.1,(k.2.1,(k.2.2.1,(k.2.2.2.1,(k.2.2.2.2.2.2.2.2.2.2.2.2.2.1,(k.2.2.2.2.2.2.2.2.2.2.2.2.2.2.1,(k.2.2.2.2.2.2.2.2.2.2.2.2.2.2.2.1,())))))))) fun t=>
 opt.ask _ (p.cmp .eql t.1 (0:Int)) (
 opt.bnd T0 _ (G39 p (k.1,(k.2.1,(k.2.2.1,(k.2.2.2.1,(k.2.2.2.2.1,(k.2.2.2.2.2.1,(k.2.2.2.2.2.2.1,())))))))) fun u=>
 opt.ask _ (p.cmp .neq u.1 (0:Int)) (
 opt.bnd T1 _ (G15 p ()) fun v=>
 opt.ret _ (v.1,())) (
 opt.ret _ (Bool.false,()))) (
 opt.ret _ (Bool.false,()))) (
 opt.ret _ (Bool.false,()))) (
 opt.ret _ (Bool.false,()))) (
 opt.ret _ (Bool.false,())))) fun w=>
 opt.ret _ (w.1,()))))
theorem ok10:CtrOk PG v9w (G10 std):=okF (a:=an10) (l:=la10) (gC u0r (gC u0t (gC u0q (gC ok40 (gC ok33 (gC u0s (gC u0u (gC ok15 (gC ok29 (gN)))))))))) (by kernel_rfl) fun _ _=>by kernel_rfl
end Go.Am
end
section
namespace Go.Am
open M06
theorem w7w {a:List Pt} {A B C:Int} (h:∀ p∈a,dt (A,B) p≤C) {x:Pt} {k:Int} (hk:0≤k) (hx:InH a x k):dt (A,B) x≤C*k:=by
 obtain ⟨p,hp,h1⟩:=hx (-B,A)
 have e1:crs (-B,A) (sb x (ml p k))=k*dt (A,B) p - dt (A,B) x:=by simp only [crs,dt,sb,ml]; grind
 have:=Int.mul_le_mul_of_nonneg_left (h p hp) hk
 rw [Int.mul_comm C]; omega
theorem w3p {b:List Pt} {A B C:Int} (h:∀ p∈b,C<dt (A,B) p) {x:Pt} {k:Int} (hk:0<k) (hx:InH b x k):dt (A,B) x>C*k:=by
 obtain ⟨p,hp,h1⟩:=hx (B, -A)
 have e1:crs (B, -A) (sb x (ml p k))=dt (A,B) x - k*dt (A,B) p:=by simp only [crs,dt,sb,ml]; grind
 have:=Int.mul_lt_mul_of_pos_left (h p hp) hk
 rw [Int.mul_comm C]; omega
theorem x9p {l:List Pt} {hs:List (List Pt)} (hf:z4l l hs) {ks:List Pt} (h:∀ x∈ks,x∈z07 l hs) {n:Int} (hn:(ks.length:Int)=n) (h1:1≤n) (h2:n≤20):
  y6p l hs l hs (z1j ks) n=0∧InH (z06 (z07 l hs)) (z1j ks) n∧z0p (-100000) 100000 (z1j ks):=by
 have hl:=w30 hf.cyc h
 rw [hn] at hl
 have hbx:=x4t hf.boxA (ks:=ks) (by omega) h
 have hi:=(z2k hf.cyc (by omega)).2 hl
 refine ⟨?_,hl,hbx⟩
 unfold y6p
 rw [if_neg (by simp [z1k.2 hf]),if_neg (by simp [z1k.2 hf]),if_neg (by simp only [Classical.not_not]; exact ⟨by omega,by omega,by simp only [Big,z0p] at*; omega⟩),if_pos ⟨hi,hi⟩]
theorem v5t (l:List Pt) (hs:List (List Pt)) (m:List Pt) (ks:List (List Pt)) (A B C:Int) (wA:(Lit.int IntKind.i64 A).wf=true) (wB:(Lit.int IntKind.i64 B).wf=true) (wC:(Lit.int IntKind.i64 C).wf=true)
  (x y z:Int) (wx:(Lit.int IntKind.i64 x).wf=true) (wy':(Lit.int IntKind.i64 y).wf=true) (wz:(Lit.int IntKind.i64 z).wf=true)
  (n:Int) (hn:(Lit.int IntKind.u8 n).wf=true) (b1:List Int) (hb1:∀ b∈b1,(Lit.int IntKind.u8 b).wf=true) (b2:List Int) (hb2:∀ b∈b2,(Lit.int IntKind.u8 b).wf=true):
  G10 std (z0d l,z1m hs,z0d m,z1m ks,A,B,C,x,y,z,n,y1u b1,y1u b2,())=some (true,()):=by
 unfold G10
 have h29:=w65 l hs
 have h29r:=w65 m ks
 by_cases hf:z4l l hs
 case neg=>simp only [z0m,z0n,h29,hf,y78]
 by_cases hk:z4l m ks
 case neg=>simp only [z0m,z0n,h29,h29r,hf,hk,y78]
 by_cases q1:(b1.length:Int)>50
 ·simp only [z0m,z0n,h29,h29r,hf,hk,z7x,q1,y78]
 by_cases q2:(b2.length:Int)>50
 ·simp only [z0m,z0n,h29,h29r,hf,hk,z7x,q1,q2,y78]
 have hp:=x3x hn
 obtain ⟨k1,f1,f2,f3⟩:=w64 hf hn hb1 (by omega)
 obtain ⟨k2,f4,f5,f6⟩:=w64 hk hn hb2 (by omega)
 obtain ⟨s1,s2,s3⟩:=x9p hf f3 f2 hp.1 hp.2
 obtain ⟨t1,t2,t3⟩:=x9p hk f6 f5 hp.1 hp.2
 have c1:=x6y l hs l hs (z1j k1) (z33 n)
 have c2:=x6y m ks m ks (z1j k2) (z33 n)
 rw [s1] at c1
 rw [t1] at c2
 have h32:=v5r l hs m ks
 have h37:=v5p l hs m ks
 have pv:=w3m hf hk
 have hne:=x2i (z3r hf.allNe) (z3r hk.allNe)
 have hD:=z2m hne
 have hin:z6m l hs m ks=true↔InH (dif (z06 (z07 l hs)) (z06 (z07 m ks))) (0,0) 1:=(z2k hD (by omega)).trans (z8i hD (by omega)).symm
 rcases w0f hf hk with ⟨hcl,v,hv,lv⟩|⟨hcl,lv⟩
 ·rw [hcl,if_pos rfl] at pv
  rw [pv] at h32
  rw [lv] at h37
  simp only at h32 h37
  have e1:=x6y l hs m ks (v.1,v.2.1) v.2.2
  have e2:=v5o l hs m ks (v.1,v.2.1) v.2.2
  rw [w95 hf hk hv] at e1 e2
  simp only at e1 e2
  have h39:=w63 l hs m ks (y5p wA) (y5p wB) (y5p wC)
  have hno:=w45 hf hk hcl A B C
  simp only [z0m,z0n,h29,h29r,hf,hk,z7x,q1,q2,h32,h37,f1,f4,c1,c2,e1,e2,h39,hno,not_true,not_false_eq_true,y78,show ¬ (21:Int)=0 by decide]
 ·rw [hcl,if_neg (by simp)] at pv
  rw [pv] at h32
  rw [lv] at h37
  simp only at h32 h37
  obtain ⟨lg,lo,lb⟩:=w0e hf hk (by rw [y2y hf hk,hcl]; rfl)
  have hck:=w44 hf hk hcl
  have hmx: -20971520000≤(z3i (z06 (z07 l hs)) (z06 (z07 m ks))).1.2.2∧(z3i (z06 (z07 l hs)) (z06 (z07 m ks))).1.2.2≤1099511627776∧ -1099511627776≤(z3i (z06 (z07 l hs)) (z06 (z07 m ks))).1.2.2→True:=fun _=>trivial
  generalize (z3i (z06 (z07 l hs)) (z06 (z07 m ks))).1.1=LA at*
  generalize (z3i (z06 (z07 l hs)) (z06 (z07 m ks))).1.2.1=LB at*
  generalize (z3i (z06 (z07 l hs)) (z06 (z07 m ks))).1.2.2=LC at*
  obtain ⟨g0,g1,g2,g3,g4,g5,g6⟩:=lg
  have h39:=w63 l hs m ks (A:=LA) (B:=LB) (C:=LC) (by omega) (by omega) (by omega)
  have h36:=v5q l hs m ks LA LB LC
  rw [hck] at h39 h36
  have h40:=x6y l hs m ks (x,y) z
  simp only at h40
  have hno:=w96 hf hk hcl (x,y) z
  have hdiff:(if (z1j k1).1=(z1j k2).1 then if (z1j k1).2=(z1j k2).2 then true else false else false)=false:=by
   by_cases u1:(z1j k1).1=(z1j k2).1
   ·by_cases u2:(z1j k1).2=(z1j k2).2
    ·exfalso
     have he:z1j k1=z1j k2:=Prod.ext u1 u2
     rw [←he] at t2
     have:=hin.2 (y90 (by omega) s2 t2)
     rw [hcl] at this; cases this
    ·rw [if_pos u1,if_neg u2]
   ·rw [if_neg u1]
  have o1:=w7w lo.1 (by omega) s2
  have o2:=w3p lo.2 (by omega) t2
  have mb:∀ {a b:Int}, -10000≤a→a≤10000→ -100000≤b→b≤100000→ -1000000000≤a*b∧a*b≤1000000000:=by
   intro a b h1 h2 h3 h4
   have:=z3s (A:=10000) (B:=100000) (a:=a) (b:=b) (by omega) (by omega) (by omega) (by omega) (by omega)
   omega
  simp only [z0p] at lb s3 t3
  have m1:=mb lb.1 lb.2.1 s3.1 s3.2.1
  have m2:=mb lb.2.2.1 lb.2.2.2 s3.2.2.1 s3.2.2.2
  have m3:=mb lb.1 lb.2.1 t3.1 t3.2.1
  have m4:=mb lb.2.2.1 lb.2.2.2 t3.2.2.1 t3.2.2.2
  have m5:=z3s (A:=1099511627776) (B:=20) (a:=LC) (b:=z33 n) (by omega) (by omega) (by omega) (by omega) (by omega)
  have w1:IntKind.i64.wrap (LA*(z1j k1).1)=LA*(z1j k1).1:=z00 _ (by omega) (by omega)
  have w2:IntKind.i64.wrap (LB*(z1j k1).2)=LB*(z1j k1).2:=z00 _ (by omega) (by omega)
  have w3:IntKind.i64.wrap (LA*(z1j k2).1)=LA*(z1j k2).1:=z00 _ (by omega) (by omega)
  have w4:IntKind.i64.wrap (LB*(z1j k2).2)=LB*(z1j k2).2:=z00 _ (by omega) (by omega)
  have w5:IntKind.i64.wrap (LC*z33 n)=LC*z33 n:=z00 _ (by omega) (by omega)
  have w6:IntKind.i64.wrap (LA*(z1j k1).1+LB*(z1j k1).2)=dt (LA,LB) (z1j k1):=by rw [z00 _ (by omega) (by omega)]; rfl
  have w7:IntKind.i64.wrap (LA*(z1j k2).1+LB*(z1j k2).2)=dt (LA,LB) (z1j k2):=by rw [z00 _ (by omega) (by omega)]; rfl
  simp only [z0m,z0n,h29,h29r,hf,hk,z7x,q1,q2,h32,h37,f1,f4,c1,c2,h39,h36,h40,hno,not_true,not_false_eq_true,hdiff,z0r,z0a,w1,w2,w3,w4,w5,w6,w7,o1,o2,y78]
end Go.Am
end
section
namespace Go.Proofs.Ytolfgnbldofcjaa
open Go.ChangeShapes Go.WideShapes Go.ChangeAt Go.RowKit Go.Am
theorem v0s {e0:List (List D)} {e1:List (List D)} {e2:List (List D)} {e3:List (List D)} {e4:Int} {e5:Int} {e6:Int} {e7:Int} {e8:Int} {e9:Int} {e10:Int} {e11:List (List D)} {e12:List (List D)} (h:G10 std (e0,e1,e2,e3,e4,e5,e6,e7,e8,e9,e10,e11,e12,())=some (true,())):∃ h',z93 Try.prog 10 (toA [.agg [.list false 2 e0, .list false 1 e1], .agg [.list false 2 e2, .list false 1 e3], .agg [.int .i64 e4, .int .i64 e5, .int .i64 e6], .agg [.int .i64 e7, .int .i64 e8, .int .i64 e9], .int .u8 e10, .list false 1 e11, .list false 1 e12]) [] (.d (.bool true)) h':=by
 have:=(ok10.2 (e0,e1,e2,e3,e4,e5,e6,e7,e8,e9,e10,e11,e12,()) (true,()) h).2
 exact ⟨_,this⟩
theorem v6p:w7l Try.prog 6 Try.f10.params.toList=true:=by kernel_rfl
theorem rt10:Try.f10.resultTypes=#[Try.f10.resultTypes.getD 0 0]:=by kernel_rfl
theorem rb10:Try.prog.underlying (Try.f10.resultTypes.getD 0 0)=some .bool:=by kernel_rfl
theorem w97:Try.f10.params.toList.all (fun t=>decide (t<Try.prog.types.size))=true:=by kernel_rfl
set_option maxRecDepth 100000 in
theorem x8g (H:Type) (enc:TypeId×Value→H) (W:World) (base:Nat) (args:Array Value) (ds gs:List (DataW H)) (before:List MemPlace)
  (hval:∀ (j:Nat) t v,Try.f10.params[j]?=some t→args[j]?=some v→Value.okWide Try.prog W .any base t v)
  (hW:DataW.Whole enc Try.prog Try.f10.params.toList Rows.signalEitherSpec.vars false W args.toList ds gs before):
  Calls Try.prog 10 args W fun e W'=>∃ v,e= .returned v∧Rows.signalEitherSpec.post enc Try.prog Try.f10 false true false false W args v W':=by
 have hW':=hW
 obtain ⟨p,q,hA0,hV,rfl,hfz,hnd⟩:=hW
 have hA:DataW.TrodAll enc Try.prog W 0 (fun _=>true) true Try.f10.params.toList args.toList ds p:=hA0
 obtain ⟨xs,h1,h2,h3⟩:=w2i (O:=fun _=>False) (fun _ h=>h) v6p (w0n hval) hA
 have hd:∃ x0 x1 x2 x3 x4 x5 x6,xs=[x0,x1,x2,x3,x4,x5,x6]∧(∃ ds,x0= .agg ds∧DKs [.list [.int .i64, .int .i64], .list [.list [.int .i64, .int .i64]]] ds)∧(∃ ds,x1= .agg ds∧DKs [.list [.int .i64, .int .i64], .list [.list [.int .i64, .int .i64]]] ds)∧(∃ ds,x2= .agg ds∧DKs [.int .i64, .int .i64, .int .i64] ds)∧(∃ ds,x3= .agg ds∧DKs [.int .i64, .int .i64, .int .i64] ds)∧(DK (.int .u8) x4)∧(DK (.list [.int .u8]) x5)∧(DK (.list [.int .u8]) x6):=by
  match xs,h1 with
  |[x0,x1,x2,x3,x4,x5,x6],h1=>exact ⟨x0,x1,x2,x3,x4,x5,x6,rfl,h1.1,h1.2.1,h1.2.2.1,h1.2.2.2.1,h1.2.2.2.2.1,h1.2.2.2.2.2.1,h1.2.2.2.2.2.2.1⟩
 obtain ⟨x0,x1,x2,x3,x4,x5,x6,rfl,k0,k1,k2,k3,k4,k5,k6⟩:=hd
 obtain ⟨l0,hz0,rfl⟩:=x52 k0
 obtain ⟨l1,hz1,rfl⟩:=x52 k1
 obtain ⟨a2,b2,c2,rfl,wa2,wb2,wc2⟩:=x42 k2
 obtain ⟨a3,b3,c3,rfl,wa3,wb3,wc3⟩:=x42 k3
 obtain ⟨n4,rfl,wf4⟩:=v0t k4
 obtain ⟨l5,rfl,wf5⟩:=x6n k5
 obtain ⟨l6,rfl,wf6⟩:=x6n k6
 obtain ⟨h',hr⟩:=v0s (v5t l0 hz0 l1 hz1 a2 b2 c2 wa2 wb2 wc2 a3 b3 c3 wa3 wb3 wc3 n4 wf4 l5 wf5 l6 wf6)
 exact (y9w hr h2 h3).mono fun e W' ⟨he,hs⟩=>⟨_,he,w36 laid rowed sized w97 rfl rt10 rb10 (fun ds hd=>by
  match ds,hd with
  |[d0,d1,d2,d3,d4,d5,d6],_=>exact ⟨rfl,rfl,rfl⟩) hW' hs⟩
set_option maxRecDepth 100000 in
theorem w31 (os:Os) (started:os.Started) (H:Type) (enc:TypeId×Value→H):
  ReturnsInHanded {} Try.checked os 10 .any (Rows.signalEitherSpec.pre6 enc Try.prog Try.f10 Rows.signalEitherRow.domain false) (Rows.signalEitherSpec.post enc Try.prog Try.f10 false true false false):=by
 refine returnsInHanded_of_change (C:=Try.checked) own started (by kernel_rfl) Try.func10
  (ChangeSpec.witness6 (enc:=enc) (C:=Try.checked) false ⟨#[],#[.agg #[.slice none 0 0, .slice none 0 0], .agg #[.slice none 0 0, .slice none 0 0], .agg #[.int .i64 0, .int .i64 0, .int .i64 0], .agg #[.int .i64 0, .int .i64 0, .int .i64 0], .int .u8 0, .slice none 0 0, .slice none 0 0],[]⟩ 8 (by kernel_rfl) (by kernel_rfl) (by kernel_rfl) (by kernel_rfl)) ?_
 intro W base args ds gs before hval hW _ _
 exact x8g H enc W base args ds gs before hval hW
set_option maxRecDepth 100000 in
theorem y2i:Rows.signalEitherRow.holds Try.pinned (OpenSpec.ofChange Rows.signalEitherSpec):=
 OpenClaim.holds_of_wide 10 Try.f10 rfl rfl rfl rfl rfl rfl rfl ⟨rfl,rfl,rfl,rfl,rfl⟩ rfl rfl rfl rfl rfl (by kernel_rfl) Try.func10 (by kernel_rfl)
  (of_decide_eq_true (by kernel_rfl)) (by unfold Func.isWrapper; first|(rw [if_pos (by decide+kernel)]; kernel_rfl)|(rw [if_neg (by decide+kernel)]; exact ⟨rfl,rfl⟩))
  (fun os started H enc _=>w31 os started H enc)
theorem signalEither_holds:Rows.SignalEitherSaid:=y2i
end Go.Proofs.Ytolfgnbldofcjaa
end
