/-
  Proved: SignalGaps: for every input the call returns true, and each argument reads afterwards as it read before; there is no condition.
-/
import Derived.Test.YtolfgnbldofcjaaT5
import Derived.Test.YtolfgnbldofcjaaProg
import Derived.KernelRfl
set_option linter.unusedVariables false
set_option linter.unusedSimpArgs false
set_option linter.unusedSectionVars false
set_option maxRecDepth 100000
set_option maxHeartbeats 0
section
namespace Go.Am
open M06
def frA (a:Pt):Pt:=fr (far a (0,0)).toNat 1
def upO (a b:Pt):Option Pt:=if dt a (sb b a)<0∧dt b (sb b a)>0 then some (fr (crs a b*crs a b).toNat (far a b).toNat) else none
def nxP (c:List Pt) (i:Nat):Pt:=c.getD ((i+1) % c.length) (0,0)
def w0d (c:List Pt) (i:Nat):List Pt:=frA (sdP c i)::(match upO (sdP c i) (nxP c i) with|some x=>[x]|none=>[])
def y59 (c:List Pt) (n:Nat):List Pt:=(List.range n).flatMap (w0d c)
theorem w0g (c:List Pt) (n:Nat):y59 c (n+1)=y59 c n++w0d c n:=by
 unfold y59; rw [List.range_succ,List.flatMap_append]; simp
theorem z37 {c:List Pt} {n:Nat} {x:Pt}:x∈y59 c n↔∃ i,i<n∧x∈w0d c i:=by
 simp [y59,List.mem_flatMap]
theorem y5q {a b:Pt} (ha:z0s (-10000) 10000 a) (hb:z0s (-10000) 10000 b):0≤far a b∧far a b≤800000000:=by
 obtain ⟨e1,e2,e3,e4⟩:=ha
 obtain ⟨f1,f2,f3,f4⟩:=hb
 have m1:=z3a (a:=a.1 - b.1) (b:=a.1 - b.1) (A:=20000) (B:=20000) (by omega) (by omega) (by omega) (by omega) (by omega)
 have m2:=z3a (a:=a.2 - b.2) (b:=a.2 - b.2) (A:=20000) (B:=20000) (by omega) (by omega) (by omega) (by omega) (by omega)
 have h1:=z27 (a.1 - b.1)
 have h2:=z27 (a.2 - b.2)
 simp only [far,dt,sb]
 omega
theorem x4l {a:Pt} (ha:z0s (-10000) 10000 a):Frc (frA a):=by
 have:=y5q ha (b:=(0,0)) (by simp [z0s])
 exact ⟨_,1,by omega,by omega,by omega,rfl⟩
theorem x9u {a b x:Pt} (ha:z0s (-10000) 10000 a) (hb:z0s (-10000) 10000 b) (h:upO a b=some x):Frc x:=by
 have hf:=y5q ha hb
 obtain ⟨_,_,_,c4,c5⟩:=y1u ha hb
 obtain ⟨_,s2,s3⟩:=y8q c4 c5
 unfold upO at h
 split at h
 ·rename_i hn
  cases h
  have hpos:0<far a b:=by
   rcases Int.lt_or_le 0 (far a b) with h|h
   ·exact h
   ·exfalso
    have h0:far a b=0:=by omega
    have e:far a b=dt b (sb b a) - dt a (sb b a):=by simp only [far,dt,sb]; grind
    omega
  exact ⟨_,_,by omega,by omega,by omega,rfl⟩
 ·cases h
theorem w3g {x y:Pt} (hx:Frc x) (hy:Frc y):g35 it0 std (x.1,x.2,y.1,y.2,())=some (decide (x.1*y.2<y.1*x.2),()):=by
 obtain ⟨a,b,h1,h2,h3,rfl⟩:=hx.nat
 obtain ⟨c,d,k1,k2,k3,rfl⟩:=hy.nat
 have h:=v7q h1 k1 (show a<9223372036854775808 by omega) (by omega) (show c<9223372036854775808 by omega) (by omega)
 have e:(a*d<c*b)↔((a:Int)*(d:Int)<(c:Int)*(b:Int)):=by rw [←Int.natCast_mul, ←Int.natCast_mul]; exact Int.ofNat_lt.symm
 have e2:decide (a*d<c*b)=decide ((a:Int)*(d:Int)<(c:Int)*(b:Int)):=by rw [decide_eq_decide]; exact e
 rw [e2] at h
 exact h
theorem x49 {n d:Int} (hn:0≤n) (hn':n<9223372036854775808) (hd:0<d) (hd':d<9223372036854775808):g34 it0 std (n,d,())=some ((fr n.toNat d.toNat).1,(fr n.toNat d.toNat).2,()):=by
 have h:=v7r (n:=n.toNat) (d:=d.toNat) (by omega) (by omega) (by omega)
 rw [Int.toNat_of_nonneg hn,Int.toNat_of_nonneg (by omega)] at h
 exact h
def z3y (x m:Pt):Pt:=if x.1*m.2<m.1*x.2 then x else m
theorem x2c {x m:Pt}:(z3y x m).1*m.2≤m.1*(z3y x m).2∧(z3y x m).1*x.2≤x.1*(z3y x m).2:=by
 unfold z3y
 split
 ·exact ⟨by omega,Int.le_refl _⟩
 ·exact ⟨Int.le_refl _,by omega⟩
theorem y2g {x m:Pt} {L:List Pt} (hx:x∈L) (hm:m∈L):z3y x m∈L:=by unfold z3y; split<;>assumption
theorem w22 {S c:List Pt} (hc:Cyc S c) (kc:∀ x∈c,z0s (-10000) 10000 x) (lc:c.length≤3600):
  ∃ m,x3l (y59 c c.length) m∧z3w (y3q it0 std) ((0:Int),(0:Int),(0:Int),(0:Int),(frA (sdP c 0)).1,(frA (sdP c 0)).2,z0d c,(0:Int),())=some ((0:Int),(0:Int),m.1,m.2,()):=by
 have hbn:1≤c.length:=by
  match c,hc with
  |q::r,_=>simp
 have hfrc:∀ x∈y59 c c.length,Frc x:=fun x hx=>by
  obtain ⟨i,hi,hx⟩:=z37.1 hx
  obtain ⟨u,hu⟩:=z0l hi
  obtain ⟨v,hv⟩:=z0l (l:=c) (i:=(i+1) % c.length) (Nat.mod_lt _ (by omega))
  have h1:sdP c i=u:=z4t hu
  have h2:nxP c i=v:=z4t hv
  have bu:=kc u (List.mem_of_getElem? hu)
  have bv:=kc v (List.mem_of_getElem? hv)
  unfold w0d at hx
  rw [h1,h2] at hx
  rcases List.mem_cons.1 hx with rfl|hx
  ·exact x4l bu
  ·cases hup:upO u v with
   |none=>rw [hup] at hx; simp at hx
   |some y=>rw [hup] at hx; simp only [List.mem_singleton] at hx; subst hx; exact x9u bu bv hup
 have key:=z2c (b:=y3q it0 std) c.length (fun (m:Pt) i=>((0:Int),(0:Int),(0:Int),(0:Int),m.1,m.2,z0d c,(i:Int),())) (fun m i=>m∈y59 c c.length∧∀ x∈y59 c i,m.1*x.2≤x.1*m.2) (fun r=>∃ m,x3l (y59 c c.length) m∧r=((0:Int),(0:Int),m.1,m.2,())) (fun m i hi ⟨h1,h2⟩=>by
  left
  obtain ⟨u,hu⟩:=z0l hi
  obtain ⟨v,hv⟩:=z0l (l:=c) (i:=(i+1) % c.length) (Nat.mod_lt _ (by omega))
  have gu:=z0x hu
  have gv:=z0x hv
  have hsP:sdP c i=u:=z4t hu
  have hnP:nxP c i=v:=z4t hv
  have bu:=kc u (List.mem_of_getElem? hu)
  have bv:=kc v (List.mem_of_getElem? hv)
  obtain ⟨m1,m2⟩:=y5a (i:=i) (n:=c.length) (by omega) (by omega)
  have c2:(i:Int)<(c.length:Int):=by omega
  have c3:(i:Int)≥0:=by omega
  have c4:¬ (c.length:Int)=0:=by omega
  have c5:(((i+1) % c.length:Nat):Int)≥0:=by omega
  have su:=z54 (k:=10000) (by omega) bu
  have sv:=z54 (k:=10000) (by omega) bv
  have h91:G91 std (u.1,u.2,0,0,())=_:=x3m su (b:=(0,0)) (by simp [z1f])
  have h91':=x3m su sv
  have f0:=y5q bu (b:=(0,0)) (by simp [z0s])
  have f1:=y5q bu bv
  have h34:=x49 (n:=far u (0,0)) (d:=1) f0.1 (by omega) (by omega) (by omega)
  have e1:(1:Int).toNat=1:=rfl
  rw [e1] at h34
  have hF:((fr (far u (0,0)).toNat 1))=frA u:=rfl
  rw [hF] at h34
  have hmem0:frA u∈y59 c c.length:=z37.2 ⟨i,hi,by unfold w0d; rw [hsP]; exact List.mem_cons_self ..⟩
  have k0:=x4l bu
  have k1:=hfrc m h1
  have h35:=w3g k0 k1
  have hm':=y2g hmem0 h1
  have k2:=hfrc _ hm'
  obtain ⟨l1,l2⟩:=x2c (x:=frA u) (m:=m)
  have hstep1:∀ (X:Int×Int×Int×Int×Int×Int×Int×Int×Int×Int×List (List D)×Int×Unit),True:=fun _=>trivial
  obtain ⟨d1,d2⟩:=z3n sv su
  have bs:z0s (-20000) 20000 (sb v u):=by simp only [z0s,sb] at bu bv⊢; omega
  have p1:=z3a (A:=10000) (B:=20000) (by omega) bu.1 bu.2.1 bs.1 bs.2.1
  have p2:=z3a (A:=10000) (B:=20000) (by omega) bu.2.2.1 bu.2.2.2 bs.2.2.1 bs.2.2.2
  have p3:=z3a (A:=10000) (B:=20000) (by omega) bv.1 bv.2.1 bs.1 bs.2.1
  have p4:=z3a (A:=10000) (B:=20000) (by omega) bv.2.2.1 bv.2.2.2 bs.2.2.1 bs.2.2.2
  have w1:IntKind.i64.wrap (u.1*(sb v u).1)=u.1*(sb v u).1:=z09 _ (by omega) (by omega)
  have w2:IntKind.i64.wrap (u.2*(sb v u).2)=u.2*(sb v u).2:=z09 _ (by omega) (by omega)
  have w3:IntKind.i64.wrap (u.1*(sb v u).1+u.2*(sb v u).2)=dt u (sb v u):=z09 _ (by omega) (by omega)
  have w4:IntKind.i64.wrap (v.1*(sb v u).1)=v.1*(sb v u).1:=z09 _ (by omega) (by omega)
  have w5:IntKind.i64.wrap (v.2*(sb v u).2)=v.2*(sb v u).2:=z09 _ (by omega) (by omega)
  have w6:IntKind.i64.wrap (v.1*(sb v u).1+v.2*(sb v u).2)=dt v (sb v u):=z09 _ (by omega) (by omega)
  obtain ⟨x1,x2,x3,x4,x5⟩:=y1u bu bv
  obtain ⟨s1,s2,s3⟩:=y8q x4 x5
  have hrow:y59 c (i+1)=y59 c i++(frA u::(match upO u v with|some x=>[x]|none=>[])):=by rw [w0g,w0d,hsP,hnP]
  have hup:upO u v=none∨∃ x,upO u v=some x:=by cases upO u v<;>simp
  rcases hup with hup|⟨x,hup⟩
  ·rw [hup] at hrow
   refine ⟨z3y (frA u) m,?_,hm',fun y hy=>?_⟩
   ·have hcond:(dt u (sb v u)<0∧¬ dt v (sb v u)>0)∨¬ dt u (sb v u)<0:=by
     unfold upO at hup
     split at hup
     ·cases hup
     ·rename_i hn
      by_cases h:dt u (sb v u)<0
      ·exact .inl ⟨h,fun k=>hn ⟨h,k⟩⟩
      ·exact .inr h
    by_cases hl:(frA u).1*m.2<m.1*(frA u).2
    ·have hle:z3y (frA u) m=frA u:=if_pos hl
     rw [hle]
     rw [decide_eq_true hl] at h35
     rcases hcond with ⟨q1,q2⟩|q1
     ·simp only [y3q,z0q,z0r,z0g,z0u,z0t,z1b,z0i,z0c,z0a,z02,z0h,z0z,m1,m2,c2,c3,c4,c5,gu,gv,h91,h34,h35,d1,d2,w1,w2,w3,w4,w5,w6,q1,q2,not_false_eq_true]
     ·simp only [y3q,z0q,z0r,z0g,z0u,z0t,z1b,z0i,z0c,z0a,z02,z0h,z0z,m1,m2,c2,c3,c4,c5,gu,gv,h91,h34,h35,d1,d2,w1,w2,w3,w4,w5,w6,q1,not_false_eq_true]
    ·have hle:z3y (frA u) m=m:=if_neg hl
     rw [hle]
     rw [decide_eq_false hl] at h35
     rcases hcond with ⟨q1,q2⟩|q1
     ·simp only [y3q,z0q,z0r,z0g,z0u,z0t,z1b,z0i,z0c,z0a,z02,z0h,z0z,m1,m2,c2,c3,c4,c5,gu,gv,h91,h34,h35,d1,d2,w1,w2,w3,w4,w5,w6,q1,q2,not_false_eq_true]
     ·simp only [y3q,z0q,z0r,z0g,z0u,z0t,z1b,z0i,z0c,z0a,z02,z0h,z0z,m1,m2,c2,c3,c4,c5,gu,gv,h91,h34,h35,d1,d2,w1,w2,w3,w4,w5,w6,q1,not_false_eq_true]
   ·rw [hrow] at hy
    rcases List.mem_append.1 hy with hy|hy
    ·exact z4a k2.den k1.den (hfrc y (z37.2 (by obtain ⟨j,a,b⟩:=z37.1 hy; exact ⟨j,by omega,b⟩))).den l1 (h2 y hy)
    ·simp only [List.mem_singleton] at hy; subst hy; exact l2
  ·rw [hup] at hrow
   have hmemx:x∈y59 c c.length:=z37.2 ⟨i,hi,by unfold w0d; rw [hsP,hnP,hup]; simp⟩
   have k3:=hfrc x hmemx
   have h35':=w3g k3 k2
   obtain ⟨l3,l4⟩:=x2c (x:=x) (m:=z3y (frA u) m)
   have k4:=hfrc _ (y2g hmemx hm')
   have hq:dt u (sb v u)<0∧dt v (sb v u)>0:=by
    unfold upO at hup
    split at hup
    ·assumption
    ·cases hup
   have hx:x=fr (crs u v*crs u v).toNat (far u v).toNat:=by
    unfold upO at hup
    rw [if_pos hq] at hup
    exact (Option.some.inj hup).symm
   have hpos:0<far u v:=by
    have e:far u v=dt v (sb v u) - dt u (sb v u):=by simp only [far,dt,sb]; grind
    omega
   have h34':=x49 (n:=crs u v*crs u v) (d:=far u v) s2 (by omega) hpos (by omega)
   rw [←hx] at h34'
   obtain ⟨q1,q2⟩:=hq
   refine ⟨z3y x (z3y (frA u) m),?_,y2g hmemx hm',fun y hy=>?_⟩
   ·have hl':∀ w:Pt,w=z3y (frA u) m→(decide (x.1*w.2<w.1*x.2)=true∧z3y x (z3y (frA u) m)=x)∨(decide (x.1*w.2<w.1*x.2)=false∧z3y x (z3y (frA u) m)=w):=by
     intro w hw
     subst hw
     by_cases h:x.1*(z3y (frA u) m).2<(z3y (frA u) m).1*x.2
     ·exact .inl ⟨decide_eq_true h,if_pos h⟩
     ·exact .inr ⟨decide_eq_false h,if_neg h⟩
    by_cases hl:(frA u).1*m.2<m.1*(frA u).2
    ·have hle:z3y (frA u) m=frA u:=if_pos hl
     have hl2:=hl' _ hle.symm
     rw [hle] at h35'
     rw [decide_eq_true hl] at h35
     rcases hl2 with ⟨y1,y2⟩|⟨y1,y2⟩
     ·rw [y2]; rw [y1] at h35'
      simp only [y3q,z0q,z0r,z0g,z0u,z0t,z1b,z0i,z0c,z0a,z02,z0h,z0z,m1,m2,c2,c3,c4,c5,gu,gv,h91,h91',h34,h34',h35,h35',d1,d2,w1,w2,w3,w4,w5,w6,q1,q2,x1,x2,x3,s1,not_false_eq_true]
     ·rw [y2]; rw [y1] at h35'
      simp only [y3q,z0q,z0r,z0g,z0u,z0t,z1b,z0i,z0c,z0a,z02,z0h,z0z,m1,m2,c2,c3,c4,c5,gu,gv,h91,h91',h34,h34',h35,h35',d1,d2,w1,w2,w3,w4,w5,w6,q1,q2,x1,x2,x3,s1,not_false_eq_true]
    ·have hle:z3y (frA u) m=m:=if_neg hl
     have hl2:=hl' _ hle.symm
     rw [hle] at h35'
     rw [decide_eq_false hl] at h35
     rcases hl2 with ⟨y1,y2⟩|⟨y1,y2⟩
     ·rw [y2]; rw [y1] at h35'
      simp only [y3q,z0q,z0r,z0g,z0u,z0t,z1b,z0i,z0c,z0a,z02,z0h,z0z,m1,m2,c2,c3,c4,c5,gu,gv,h91,h91',h34,h34',h35,h35',d1,d2,w1,w2,w3,w4,w5,w6,q1,q2,x1,x2,x3,s1,not_false_eq_true]
     ·rw [y2]; rw [y1] at h35'
      simp only [y3q,z0q,z0r,z0g,z0u,z0t,z1b,z0i,z0c,z0a,z02,z0h,z0z,m1,m2,c2,c3,c4,c5,gu,gv,h91,h91',h34,h34',h35,h35',d1,d2,w1,w2,w3,w4,w5,w6,q1,q2,x1,x2,x3,s1,not_false_eq_true]
   ·have base:=z4a k4.den k2.den k1.den l3 l1
    rw [hrow] at hy
    rcases List.mem_append.1 hy with hy|hy
    ·exact z4a k4.den k1.den (hfrc y (z37.2 (by obtain ⟨j,a,b⟩:=z37.1 hy; exact ⟨j,by omega,b⟩))).den base (h2 y hy)
    ·rcases List.mem_cons.1 hy with rfl|hy
     ·exact z4a k4.den k2.den k0.den l3 l2
     ·simp only [List.mem_singleton] at hy; subst hy; exact l4) (fun m ⟨h1,h2⟩=>by
  exact ⟨_,by simp only [y3q,z0q,z0r,z0c,Int.lt_irrefl],m,⟨h1,h2⟩,rfl⟩) (frA (sdP c 0)) 0 (Nat.zero_le _) ⟨z37.2 ⟨0,by omega,List.mem_cons_self ..⟩,fun x hx=>by simp [y59] at hx⟩
 obtain ⟨r,h1,m,h2,rfl⟩:=key
 exact ⟨m,h2,h1⟩
theorem v7l {l:List Pt} {hs:List (List Pt)} (hf:z5n l hs) {m:List Pt} {ks:List (List Pt)} (hk:z5n m ks):
  (z4o l hs m ks=true∧G73 std (z0d l,z1i hs,z0d m,z1i ks,())=some (0,1,()))∨
  (z4o l hs m ks=false∧∃ v,x3l (y59 (z1k (dif (z1k (z1y l hs)) (z1k (z1y m ks)))) (z1k (dif (z1k (z1y l hs)) (z1k (z1y m ks)))).length) v∧G73 std (z0d l,z1i hs,z0d m,z1i ks,())=some (v.1,v.2,())):=by
 have h95:g95 it0 std (z0d l,z1i hs,z0d m,z1i ks,())=_:=w8a hf hk
 have hbx:=y9s hf.cbox hk.cbox
 have hne:=y1r (z3h hf.allNe) (z3h hk.allNe)
 have hD:=z18 hne
 have la:=z3x hf
 have lb:=z3x hk
 have hlen:(dif (z1k (z1y l hs)) (z1k (z1y m ks))).length≤3600:=by rw [y9r]; exact Nat.mul_le_mul la lb
 have hcl:=y2n hD
 have h43:g43 it0 std (z0d (z1k (dif (z1k (z1y l hs)) (z1k (z1y m ks)))),0,0,1,())=_:=w8l hD (fun x hx=>hbx x (z4b hD x hx)) (by omega) (p:=(0,0)) (by simp [Big,z0s]) (by omega) (by omega)
 have hcb:inC (z1k (dif (z1k (z1y l hs)) (z1k (z1y m ks)))) (0,0) 1=z4o l hs m ks:=rfl
 rw [hcb] at h43
 unfold G73
 cases hc:z4o l hs m ks with
 |true=>
  rw [hc] at h43
  exact .inl ⟨rfl,by simp only [g73,g58,z0q,z0r,h95,h43]⟩
 |false=>
  rw [hc] at h43
  have kc:∀ x∈z1k (dif (z1k (z1y l hs)) (z1k (z1y m ks))),z0s (-10000) 10000 x:=fun x hx=>hbx x (z4b hD x hx)
  obtain ⟨v,h1,h2⟩:=w22 hD kc (by omega)
  generalize z1k (dif (z1k (z1y l hs)) (z1k (z1y m ks)))=c at*
  have hbn:0<c.length:=by
   match c,hD with
   |q::r,_=>simp
  obtain ⟨u,hu⟩:=z0l hbn
  have gu:=z0x hu
  have hsP:sdP c 0=u:=z4t hu
  have bu:=kc u (List.mem_of_getElem? hu)
  have h91:G91 std (u.1,u.2,0,0,())=_:=x3m (z54 (k:=10000) (by omega) bu) (b:=(0,0)) (by simp [z1f])
  have f0:=y5q bu (b:=(0,0)) (by simp [z0s])
  have h34:=x49 (n:=far u (0,0)) (d:=1) f0.1 (by omega) (by omega) (by omega)
  have e1:(1:Int).toNat=1:=rfl
  rw [e1] at h34
  have hF:((fr (far u (0,0)).toNat 1))=frA u:=rfl
  rw [hF] at h34
  rw [hsP] at h2
  refine .inr ⟨rfl,v,h1,?_⟩
  simp only [g73,g58,it0_eq,z0q,z0r,z0g,z0u,z0t,z1b,z0i,z0c,h95,h43,gu,h91,h34,h2,Int.toNat_zero]
theorem w3h {l:List Pt} {hs:List (List Pt)} {m:List Pt} {ks:List (List Pt)} {e:Int} (he:e≠0) (h:(if z51 l hs≠0 then z51 l hs else z51 m ks)=e):G26 std (z0d l,z1i hs,z0d m,z1i ks,())=some (0,0,e,()):=by
 have h72:g72 it0 std (z0d l,z1i hs,z0d m,z1i ks,())=_:=w8d l hs m ks
 rw [h] at h72
 unfold G26
 simp only [g26,z0q,z0r,h72,he,not_false_eq_true]
theorem w8m {l:List Pt} {hs:List (List Pt)} (hf:z5n l hs) {m:List Pt} {ks:List (List Pt)} (hk:z5n m ks) {v:Pt} (h:G73 std (z0d l,z1i hs,z0d m,z1i ks,())=some (v.1,v.2,())):G26 std (z0d l,z1i hs,z0d m,z1i ks,())=some (v.1,v.2,0,()):=by
 have h72:g72 it0 std (z0d l,z1i hs,z0d m,z1i ks,())=_:=w8d l hs m ks
 rw [if_neg (by simp [z5z.2 hf]),z5z.2 hk] at h72
 have h73:g73 it0 std (z0d l,z1i hs,z0d m,z1i ks,())=some (v.1,v.2,()):=h
 unfold G26
 simp only [g26,z0q,z0r,h72,h73,not_true]
end Go.Am
end
section
namespace Go.Am
open M06
theorem x6p {n d:Nat} {A B:Int} (hd:0<d):(fr n d).1*A≤B*(fr n d).2↔(n:Int)*A≤B*(d:Int):=by
 obtain ⟨a1,a2⟩:=x6o n d
 have hg:=Nat.gcd_pos_of_pos_right n hd
 have e1:(n:Int)*A=(fr n d).1*A*(Nat.gcd n d:Int):=by rw [←a1]; grind
 have e2:B*(d:Int)=B*(fr n d).2*(Nat.gcd n d:Int):=by rw [←a2]; grind
 rw [e1,e2]
 exact ⟨fun h=>Int.mul_le_mul_of_nonneg_right h (by omega),fun h=>Int.le_of_mul_le_mul_right h (by omega)⟩
theorem w5j {n d:Nat} {A B:Int} (hd:0<d):(fr n d).1*A=B*(fr n d).2↔(n:Int)*A=B*(d:Int):=by
 obtain ⟨a1,a2⟩:=x6o n d
 have hg:=Nat.gcd_pos_of_pos_right n hd
 have e1:(n:Int)*A=(fr n d).1*A*(Nat.gcd n d:Int):=by rw [←a1]; grind
 have e2:B*(d:Int)=B*(fr n d).2*(Nat.gcd n d:Int):=by rw [←a2]; grind
 rw [e1,e2]
 exact ⟨fun h=>by rw [h],fun h=>Int.eq_of_mul_eq_mul_right (by omega) h⟩
theorem w35 {a b:Int} (h:(0≤a∧a≤b)∨(b≤a∧a≤0)):a*a≤b*b:=by
 rcases h with ⟨h1,h2⟩|⟨h1,h2⟩
 ·exact Int.mul_le_mul h2 h2 h1 (by omega)
 ·have:=Int.mul_le_mul (a:= -a) (b:= -a) (c:= -b) (d:= -b) (by omega) (by omega) (by omega) (by omega)
  rw [Int.neg_mul_neg,Int.neg_mul_neg] at this; exact this
theorem y1m (a:Pt):far a (0,0)=dt a a:=by simp [far,sb]
theorem z9e (a b:Pt):far a b=dt (sb b a) (sb b a):=by simp only [far,dt,sb]; grind
theorem w84 {s1 s2 W:Pt} {q:Int} (hq:0<q) (hd:sb s2 s1≠(0,0)) (h0:crs (sb s2 s1) (sb W (ml s1 q))=0) (h1:0≤dt (sb s2 s1) (sb W (ml s1 q))) (h2:0≤dt (sb s2 s1) (sb (ml s2 q) W)):
  ∃ y,(y=frA s1∨y=frA s2∨upO s1 s2=some y)∧y.1*(q*q)≤dt W W*y.2:=by
 have hdd:=z01 hd
 have hlag:=lag W (sb s2 s1)
 have ends:∀ s:Pt,crs W (sb s2 s1)=q*crs s (sb s2 s1)→(q*dt s (sb s2 s1))*(q*dt s (sb s2 s1))≤dt W (sb s2 s1)*dt W (sb s2 s1)→(frA s).1*(q*q)≤dt W W*(frA s).2:=by
  intro s e1 e2
  unfold frA
  have hn:0≤far s (0,0):=by rw [y1m]; exact z2r s
  rw [x6p (by omega),Int.toNat_of_nonneg hn,y1m]
  have hl2:=lag s (sb s2 s1)
  rw [e1] at hlag
  have:dt s s*(q*q)*dt (sb s2 s1) (sb s2 s1)≤dt W W*dt (sb s2 s1) (sb s2 s1):=by
   rw [hlag]
   have e3:dt s s*(q*q)*dt (sb s2 s1) (sb s2 s1)=(q*q)*(dt s s*dt (sb s2 s1) (sb s2 s1)):=by grind
   rw [e3,hl2]
   have e4:(q*q)*(dt s (sb s2 s1)*dt s (sb s2 s1)+crs s (sb s2 s1)*crs s (sb s2 s1))=(q*dt s (sb s2 s1))*(q*dt s (sb s2 s1))+(q*crs s (sb s2 s1))*(q*crs s (sb s2 s1)):=by grind
   rw [e4]
   omega
  have:=Int.le_of_mul_le_mul_right this hdd
  simpa using this
 have x1:crs W (sb s2 s1)=q*crs s1 (sb s2 s1):=by simp only [crs,sb,ml] at h0⊢; grind
 have x2:crs W (sb s2 s1)=q*crs s2 (sb s2 s1):=by simp only [crs,sb,ml] at h0⊢; grind
 have y1:q*dt s1 (sb s2 s1)≤dt W (sb s2 s1):=by
  have e:dt (sb s2 s1) (sb W (ml s1 q))=dt W (sb s2 s1) - q*dt s1 (sb s2 s1):=by simp only [dt,sb,ml]; grind
  omega
 have y2:dt W (sb s2 s1)≤q*dt s2 (sb s2 s1):=by
  have e:dt (sb s2 s1) (sb (ml s2 q) W)=q*dt s2 (sb s2 s1) - dt W (sb s2 s1):=by simp only [dt,sb,ml]; grind
  omega
 by_cases c1:dt s1 (sb s2 s1)<0
 ·by_cases c2:dt s2 (sb s2 s1)>0
  ·have hu:upO s1 s2=some (fr (crs s1 s2*crs s1 s2).toNat (far s1 s2).toNat):=if_pos ⟨c1,c2⟩
   refine ⟨_, .inr (.inr hu),?_⟩
   have hn:=z27 (crs s1 s2)
   have hf:=z9e s1 s2
   rw [x6p (by omega),Int.toNat_of_nonneg hn,Int.toNat_of_nonneg (by omega),hf,hlag,x1]
   have e:crs s1 (sb s2 s1)=crs s1 s2:=by simp only [crs,sb]; grind
   rw [e]
   have:=z27 (dt W (sb s2 s1))
   have e2:crs s1 s2*crs s1 s2*(q*q)=q*crs s1 s2*(q*crs s1 s2):=by grind
   omega
  ·refine ⟨frA s2, .inr (.inl rfl),ends s2 x2 (w35 (.inr ⟨y2,?_⟩))⟩
   have:=Int.mul_nonneg (show 0≤q by omega) (show 0≤ - dt s2 (sb s2 s1) by omega)
   have e:q* - dt s2 (sb s2 s1)= - (q*dt s2 (sb s2 s1)):=by grind
   omega
 ·exact ⟨frA s1, .inl rfl,ends s1 x1 (w35 (.inl ⟨Int.mul_nonneg (by omega) (by omega),y1⟩))⟩
theorem y87 {c:List Pt} {s:Pt×Pt} (hs:s∈x04 c) {y:Pt} (hy:y=frA s.1∨upO s.1 s.2=some y):y∈y59 c c.length:=by
 obtain ⟨i,hi,rfl⟩:=List.mem_map.1 hs
 have hi:=List.mem_range.1 hi
 refine z37.2 ⟨i,hi,?_⟩
 unfold w0d
 rcases hy with rfl|hy
 ·exact List.mem_cons_self ..
 ·have:upO (sdP c i) (nxP c i)=some y:=hy
  rw [this]; simp
theorem z4l {c:List Pt} {u:Pt} (hu:u∈c):frA u∈y59 c c.length:=by
 obtain ⟨i,hi⟩:=List.getElem?_of_mem hu
 have hl:=(List.getElem?_eq_some_iff.1 hi).1
 refine z37.2 ⟨i,hl,?_⟩
 unfold w0d
 have:sdP c i=u:=z4t hi
 rw [this]; exact List.mem_cons_self ..
theorem w89 {c:List Pt} (hc:Cyc c c) (h0:¬ InH c (0,0) 1) {Z:Pt} {k:Int} (hk:0<k) (hZ:InH c Z k):∃ y∈y59 c c.length,y.1*(k*k)≤dt Z Z*y.2:=by
 have corner:∀ (u:Pt) (q:Int),0<q→(frA u).1*(q*q)=dt (ml u q) (ml u q)*(frA u).2:=by
  intro u q hq
  unfold frA
  have hn:0≤far u (0,0):=by rw [y1m]; exact z2r u
  rw [w5j (by omega),Int.toNat_of_nonneg hn,y1m]
  simp only [dt,ml]; grind
 by_cases h1:c.length≤1
 ·obtain ⟨u,rfl,_,_⟩:=y5y hc h1
  have hZu:Z=ml u k:=by
   have hh:∀ d:Pt,0≤crs d (sb Z (ml u k)):=fun d=>by
    obtain ⟨x,hx,h⟩:=hZ d
    simp only [List.mem_singleton] at hx; subst hx; exact h
   have a1:=hh (1,0)
   have a2:=hh (-1,0)
   have a3:=hh (0,1)
   have a4:=hh (0, -1)
   simp only [crs,sb,ml] at a1 a2 a3 a4
   exact Prod.ext (by simp only [ml]; omega) (by simp only [ml]; omega)
  refine ⟨frA u,z4l (by simp),?_⟩
  have:=corner u k hk
  rw [hZu]; omega
 have h2:2≤c.length:=by omega
 obtain ⟨s,α,β,hs,hα,hβ,hW,hcase⟩:=rim hc h2 hk hZ h0
 have hWe:ad (ml (0,0) (α*k)) (ml Z β)=ml Z β:=by simp [ad,ml]
 rw [hWe] at hW hcase
 have hq:0<(α+β)*k:=Int.mul_pos (by omega) hk
 obtain ⟨m1,m2⟩:=(y5b hc h2).1 hs
 have back:∀ y:Pt,0<y.2→y.1*(((α+β)*k)*((α+β)*k))≤dt (ml Z β) (ml Z β)*y.2→0≤y.1→y.1*(k*k)≤dt Z Z*y.2:=by
  intro y hy h hy0
  have e1:dt (ml Z β) (ml Z β)*y.2=(β*β)*(dt Z Z*y.2):=by simp only [dt,ml]; grind
  have e2:y.1*(((α+β)*k)*((α+β)*k))=((α+β)*(α+β))*(y.1*(k*k)):=by grind
  rw [e1,e2] at h
  have hyk:0≤y.1*(k*k):=Int.mul_nonneg hy0 (Int.mul_nonneg (by omega) (by omega))
  have hsq:β*β≤(α+β)*(α+β):=w35 (.inl ⟨by omega,by omega⟩)
  have h3:=Int.mul_le_mul_of_nonneg_right hsq hyk
  exact Int.le_of_mul_le_mul_left (Int.le_trans h3 h) (Int.mul_pos hβ hβ)
 have pos:∀ u:Pt,0<(frA u).2∧0≤(frA u).1:=fun u=>by
  have:=y5j (n:=(far u (0,0)).toNat) (d:=1) (by omega)
  unfold frA; omega
 rcases hcase with ⟨hl,_⟩|he
 ·have hd:sb s.2 s.1≠(0,0):=fun e=>m2.2.1 (z1g.1 e).symm
  have hface:y11 c (sb s.2 s.1) s.1 s.2:=by
   refine ⟨m1,m2.1,?_,fun x hx=>(m2.2.2 x hx).1,fun x hx hx0=>?_⟩
   ·simp only [crs,sb]; grind
   ·have h3:=(m2.2.2 x hx).2 hx0
    refine ⟨h3.1,?_⟩
    have hxs:crs (sb s.2 s.1) (sb x s.1)=0:=hx0
    have hfar:=h3.2
    have e1:far s.1 x=dt (sb x s.1) (sb x s.1):=z9e _ _
    have e2:far s.1 s.2=dt (sb s.2 s.1) (sb s.2 s.1):=z9e _ _
    rw [e1,e2] at hfar
    have hl1:=lag (sb s.2 s.1) (sb x s.1)
    rw [hxs] at hl1
    have e3:dt (sb s.2 s.1) (sb s.2 x)=dt (sb s.2 s.1) (sb s.2 s.1) - dt (sb s.2 s.1) (sb x s.1):=by simp only [dt,sb]; grind
    rw [e3]
    have hp:=z01 hd
    generalize dt (sb s.2 s.1) (sb s.2 s.1)=D at*
    generalize dt (sb s.2 s.1) (sb x s.1)=E at*
    generalize dt (sb x s.1) (sb x s.1)=F at*
    have h5:=Int.mul_le_mul_of_nonneg_left hfar (Int.le_of_lt hp)
    rcases Int.lt_or_le D E with h|h
    ·have:=Int.mul_lt_mul (a:=D) (b:=D) (c:=E) (d:=E) h (by omega) hp (by omega)
     simp at hl1; omega
    ·omega
  obtain ⟨g1,g2⟩:=w5c hc (Int.le_of_lt hq) hd hface hW hl
  obtain ⟨y,hy,hle⟩:=w84 hq hd hl g1 g2
  rcases hy with rfl|rfl|hy
  ·exact ⟨_,z4l m1,back _ (pos _).1 hle (pos _).2⟩
  ·exact ⟨_,z4l m2.1,back _ (pos _).1 hle (pos _).2⟩
  ·refine ⟨_,y87 hs (.inr hy),back _ ?_ hle ?_⟩
   ·unfold upO at hy
    split at hy
    ·cases hy
     have:0<far s.1 s.2:=by rw [z9e]; exact z01 hd
     have:=y5j (n:=(crs s.1 s.2*crs s.1 s.2).toNat) (d:=(far s.1 s.2).toNat) (by omega)
     omega
    ·cases hy
   ·unfold upO at hy
    split at hy
    ·cases hy
     have:0<far s.1 s.2:=by rw [z9e]; exact z01 hd
     have:=y5j (n:=(crs s.1 s.2*crs s.1 s.2).toNat) (d:=(far s.1 s.2).toNat) (by omega)
     omega
    ·cases hy
 ·refine ⟨frA s.1,z4l m1,back _ (pos _).1 ?_ (pos _).2⟩
  have:=corner s.1 _ hq
  rw [he]; omega
end Go.Am
end
section
namespace Go.Am
open M06
theorem pt1 {S:List Pt} {u:Pt} (h:u∈S):InH S u 1:=fun d=>⟨_,h,by simp [crs,sb,ml]⟩
theorem w0c {B:List Pt} (hB:Cyc B B) {p x:Pt} (hx:x∈y2z B p):
  ∃ f∈B,∃ g∈B,∃ s t:Int,0≤s∧0≤t∧0<s+t∧x.1*((s+t)*(s+t))=dt (ad (ml (sb p f) s) (ml (sb p g) t)) (ad (ml (sb p f) s) (ml (sb p g) t))*x.2:=by
 rcases z9v.1 hx with ⟨q,hq,rfl⟩|⟨i,hi,hu⟩
 ·refine ⟨q,hq,q,hq,1,0,by omega,by omega,by omega,?_⟩
  unfold frd
  rw [w5j (by omega),Int.toNat_of_nonneg (z2r _)]
  simp only [dt,sb,ad,ml]; grind
 ·obtain ⟨h1,v,h2,h3⟩:=w7g hB hi
  generalize sdP B i=f at*
  rw [h3] at hu
  unfold x5g at hu
  split at hu
  ·cases hu
  ·rename_i hn
   have hn1:0<dt (sb v f) (sb p f):=by omega
   have hn2:dt (sb v f) (sb p f)<dt (sb v f) (sb v f):=by omega
   cases hu
   refine ⟨f,h1,v,h2,dt (sb v f) (sb v f) - dt (sb v f) (sb p f),dt (sb v f) (sb p f),by omega,by omega,by omega,?_⟩
   rw [w5j (by omega),Int.toNat_of_nonneg (z27 _),Int.toNat_of_nonneg (by omega)]
   simp only [dt,sb,ad,ml,crs]; grind
theorem w98 {a b:List Pt} (ha:Cyc a a) (hb:Cyc b b) {x:Pt} (hx:x∈y6b a b):∃ (Z:Pt) (k:Int),0<k∧InH (dif a b) Z k∧x.1*(k*k)=dt Z Z*x.2:=by
 have hne:=y1r (z8z ha) (z8z hb)
 have hD:=z18 hne
 have hcc:=z2a hD
 have two:∀ {u v:Pt} {s t:Int},u∈dif a b→v∈dif a b→0≤s→0≤t→InH (dif a b) (ad (ml u s) (ml v t)) (s+t):=by
  intro u v s t hu hv hs ht
  have h1:=(z9y hD (show (0:Int)≤1 by omega)).1 (pt1 hu)
  have h2:=(z9y hD (show (0:Int)≤1 by omega)).1 (pt1 hv)
  have h3:=w5d hcc h1 h2 (by omega) (by omega) hs ht
  rw [Int.mul_one,Int.mul_one] at h3
  exact (z9y hD (by omega)).2 h3
 unfold y6b at hx
 rcases List.mem_append.1 hx with hx|hx
 ·obtain ⟨p,hp,h⟩:=List.mem_flatMap.1 hx
  obtain ⟨f,hf,g,hg,s,t,h1,h2,h3,h4⟩:=w0c hb h
  exact ⟨_,_,h3,two (z3f.2 ⟨p,hp,f,hf,rfl⟩) (z3f.2 ⟨p,hp,g,hg,rfl⟩) h1 h2,h4⟩
 ·obtain ⟨p,hp,h⟩:=List.mem_flatMap.1 hx
  obtain ⟨f,hf,g,hg,s,t,h1,h2,h3,h4⟩:=w0c ha h
  refine ⟨_,_,h3,two (z3f.2 ⟨f,hf,p,hp,rfl⟩) (z3f.2 ⟨g,hg,p,hp,rfl⟩) h1 h2,?_⟩
  rw [h4]
  congr 1
  simp only [dt,sb,ad,ml]; grind
theorem x1y {w v d:Pt} (h:crs w d=0):crs w v*dt d d=dt w d*crs d v∧dt w v*dt d d=dt w d*dt d v∧dt w w*dt d d=dt w d*dt w d:=by
 have e1:crs w v*dt d d=dt w d*crs d v+crs w d*dt d v:=by simp only [crs,dt]; grind
 have e2:dt w v*dt d d=dt w d*dt d v - crs w d*crs d v:=by simp only [crs,dt]; grind
 have e3:=lag w d
 rw [h] at e1 e2 e3
 exact ⟨by omega,by omega,by omega⟩
theorem x1p {B:List Pt} (hB:Cyc B B) {u v p d:Pt} {C:Int} (hu:u∈B) (hn:Nx B u v) (hd:d≠(0,0)) (hw:crs (sb v u) d=0) (h1:0<dt (sb v u) d*dt d (sb p u)) (h2:dt (sb v u) d*dt d (sb p v)<0)
  (hC:crs d (sb p u)*crs d (sb p u)=C*C):∃ x∈y2z B p,0<x.2∧x.1*dt d d≤C*C*x.2:=by
 have hdd:=z01 hd
 have hlen:2≤B.length:=by
  rcases Nat.lt_or_ge 1 B.length with h|h
  ·omega
  ·obtain ⟨a,rfl,_,_⟩:=y5y hB (by omega)
   have e1:=List.mem_singleton.1 hu
   have e2:=List.mem_singleton.1 hn.1
   exact absurd (e1.trans e2.symm) hn.2.1
 obtain ⟨i,hi,he⟩:=List.mem_map.1 ((y5b hB hlen (s:=(u,v))).2 ⟨hu,hn⟩)
 have hi:=List.mem_range.1 hi
 have q1:sdP B i=u:=congrArg Prod.fst he
 have q2:B.getD ((i+1) % B.length) (0,0)=v:=congrArg Prod.snd he
 have q3:sdW B i=sb v u:=by
  have:B.getD i (0,0)=u:=q1
  unfold sdW; rw [q2,this]
 obtain ⟨c1,c2,c3⟩:=x1y (v:=sb p u) hw
 obtain ⟨_,c4,_⟩:=x1y (v:=sb p v) hw
 have p1:0<dt (sb v u) (sb p u):=by
  rcases Int.lt_or_le 0 (dt (sb v u) (sb p u)) with h|h
  ·exact h
  ·have:=Int.mul_nonneg (show 0≤ - dt (sb v u) (sb p u) by omega) (Int.le_of_lt hdd)
   rw [Int.neg_mul] at this; omega
 have p2:dt (sb v u) (sb p v)<0:=by
  rcases Int.lt_or_le (dt (sb v u) (sb p v)) 0 with h|h
  ·exact h
  ·have:=Int.mul_nonneg h (Int.le_of_lt hdd); omega
 have p3:dt (sb v u) (sb p v)=dt (sb v u) (sb p u) - dt (sb v u) (sb v u):=by simp only [dt,sb]; grind
 have hup:x5g p u (sb v u)=some (fr (crs (sb v u) (sb p u)*crs (sb v u) (sb p u)).toNat (dt (sb v u) (sb v u)).toNat):=if_neg (by omega)
 refine ⟨_,z9v.2 (.inr ⟨i,hi,by rw [q1,q3]; exact hup⟩),?_,?_⟩
 ·have:=y5j (n:=(crs (sb v u) (sb p u)*crs (sb v u) (sb p u)).toNat) (d:=(dt (sb v u) (sb v u)).toNat) (by omega)
  omega
 ·rw [x6p (by omega),Int.toNat_of_nonneg (z27 _),Int.toNat_of_nonneg (by omega)]
  generalize crs (sb v u) (sb p u)=K at*
  generalize crs d (sb p u)=L at*
  generalize dt (sb v u) (sb v u)=W at*
  generalize dt (sb v u) d=E at*
  generalize dt d d=D at*
  have:(K*K*D)*D=(C*C*W)*D:=by
   have e1:(K*K*D)*D=(K*D)*(K*D):=by grind
   have e2:(C*C*W)*D=C*C*(W*D):=by grind
   rw [e1,c1,e2,c3, ←hC]; grind
  have:=Int.eq_of_mul_eq_mul_right (by omega) this
  omega
theorem face_nx {S:List Pt} {d a b:Pt} (h:y11 S d a b) (hne:a≠b) (hd:d≠(0,0)):Nx S a b:=by
 have hdd:=z01 hd
 have hb:=(h.on b h.inb h.par).1
 have hpos:0<dt d (sb b a):=by
  rcases Int.lt_or_le 0 (dt d (sb b a)) with k|k
  ·exact k
  ·exact absurd (z1g.1 (z71 hd h.par (by omega))).symm hne
 have hs:z6r d (sb b a):=⟨h.par,hpos⟩
 refine ⟨h.inb,hne,fun x hx=>?_⟩
 obtain ⟨m1,m2⟩:=hs.mul (sb x a)
 have hl:=h.left x hx
 refine ⟨?_,fun h0=>?_⟩
 ·show 0≤crs (sb b a) (sb x a)
  have:=Int.mul_nonneg (Int.le_of_lt hpos) hl
  rw [←m1] at this
  rcases Int.lt_or_le (crs (sb b a) (sb x a)) 0 with k|k
  ·have:=Int.mul_pos hdd (show 0< - crs (sb b a) (sb x a) by omega)
   rw [Int.mul_neg] at this; omega
  ·exact k
 ·have h0':crs (sb b a) (sb x a)=0:=h0
  rw [h0',Int.mul_zero] at m1
  have hz:crs d (sb x a)=0:=by
   rcases Int.mul_eq_zero.1 m1.symm with k|k
   ·omega
   ·exact k
  obtain ⟨o1,o2⟩:=h.on x hx hz
  refine ⟨?_,?_⟩
  ·have:=Int.mul_nonneg (Int.le_of_lt hpos) o1
   rw [←m2] at this
   rcases Int.lt_or_le (dt (sb b a) (sb x a)) 0 with k|k
   ·have:=Int.mul_pos hdd (show 0< - dt (sb b a) (sb x a) by omega)
    rw [Int.mul_neg] at this; omega
   ·exact k
  ·rw [z9e,z9e]
   have l1:=lag d (sb x a)
   have l2:=lag d (sb b a)
   rw [hz] at l1
   rw [h.par] at l2
   have e:dt d (sb b x)=dt d (sb b a) - dt d (sb x a):=by simp only [dt,sb]; grind
   have:=w35 (.inl ⟨o1,show dt d (sb x a)≤dt d (sb b a) by omega⟩)
   have:dt d d*dt (sb x a) (sb x a)≤dt d d*dt (sb b a) (sb b a):=by omega
   exact Int.le_of_mul_le_mul_left this hdd
theorem w4k {a b:List Pt} (ha:Cyc a a) (hb:Cyc b b) {y:Pt} (hy:y∈y59 (z1k (dif a b)) (z1k (dif a b)).length):∃ x∈y6b a b,0<x.2∧x.1*y.2≤y.1*x.2:=by
 have hne:=y1r (z8z ha) (z8z hb)
 have hD:=z18 hne
 have hcc:=z2a hD
 obtain ⟨i,hi,hy⟩:=z37.1 hy
 obtain ⟨u,hu⟩:=z0l hi
 obtain ⟨v,hv⟩:=z0l (l:=z1k (dif a b)) (i:=(i+1) % (z1k (dif a b)).length) (Nat.mod_lt _ (by omega))
 have hsP:sdP (z1k (dif a b)) i=u:=z4t hu
 have hnP:nxP (z1k (dif a b)) i=v:=z4t hv
 have mu:=z4b hD u (List.mem_of_getElem? hu)
 have mv:=z4b hD v (List.mem_of_getElem? hv)
 obtain ⟨p1,hp1,q1,hq1,e1⟩:=z3f.1 mu
 obtain ⟨p2,hp2,q2,hq2,e2⟩:=z3f.1 mv
 unfold w0d at hy
 rw [hsP,hnP] at hy
 rcases List.mem_cons.1 hy with rfl|hy
 ·refine ⟨frd p1 q1,List.mem_append.2 (.inl (List.mem_flatMap.2 ⟨p1,hp1,z9v.2 (.inl ⟨q1,hq1,rfl⟩)⟩)),?_,?_⟩
  ·have:=y5j (n:=(dt (sb q1 p1) (sb q1 p1)).toNat) (d:=1) (by omega)
   unfold frd; omega
  ·have:frd p1 q1=frA u:=by
    unfold frd frA
    rw [y1m,e1]
    congr 2
    simp only [dt,sb]; grind
   rw [this]; exact Int.le_refl _
 cases hup:upO u v with
 |none=>rw [hup] at hy; simp at hy
 |some z=>
 rw [hup] at hy
 simp only [List.mem_singleton] at hy
 subst hy
 unfold upO at hup
 split at hup
 case isFalse=>cases hup
 rename_i hq
 cases hup
 obtain ⟨k1,k2⟩:=hq
 have hd:sb v u≠(0,0):=by
  intro h; rw [h] at k1; simp [dt] at k1
 have hlen:2≤(z1k (dif a b)).length:=by
  rcases Nat.lt_or_ge 1 (z1k (dif a b)).length with h|h
  ·omega
  ·obtain ⟨w,hw,_,_⟩:=y5y hcc (by omega)
   rw [hw] at hu hv
   have x1:=List.mem_of_getElem? hu
   have x2:=List.mem_of_getElem? hv
   have x1:=List.mem_singleton.1 x1
   have x2:=List.mem_singleton.1 x2
   exact absurd (z1g.2 (x2.trans x1.symm)) hd
 have hnx:=z8t hD hlen hu hv
 have hside:∀ z∈dif a b,0≤crs (sb v u) (sb z u):=fun z hz=>(hnx.2.2 z hz).1
 generalize hde:sb v u=d at*
 have hdd:=z01 hd
 have fa:∀ p∈a,0≤crs d (sb p p1):=fun p hp=>by
  have:=hside (sb p q1) (z3f.2 ⟨p,hp,q1,hq1,rfl⟩)
  rw [e1] at this
  have e:crs d (sb (sb p q1) (sb p1 q1))=crs d (sb p p1):=by simp only [crs,sb]; grind
  omega
 have fb:∀ q∈b,0≤crs d (sb q1 q):=fun q hq=>by
  have:=hside (sb p1 q) (z3f.2 ⟨p1,hp1,q,hq,rfl⟩)
  rw [e1] at this
  have e:crs d (sb (sb p1 q) (sb p1 q1))=crs d (sb q1 q):=by simp only [crs,sb]; grind
  omega
 have hvu:crs d (sb v u)=0:=by rw [hde]; simp only [crs]; grind
 have hpar:crs d (sb p2 p1)+crs d (sb q1 q2)=0:=by
  have e:crs d (sb v u)=crs d (sb p2 p1)+crs d (sb q1 q2):=by rw [e1,e2]; simp only [crs,sb]; grind
  omega
 have z1:crs d (sb p2 p1)=0:=by have:=fa p2 hp2; have:=fb q2 hq2; omega
 have z2:crs d (sb q1 q2)=0:=by omega
 obtain ⟨A1,A2,FA⟩:∃ A1 A2,y11 a d A1 A2:=⟨_,_,z64 ha hd⟩
 obtain ⟨B1,B2,FB⟩:∃ B1 B2,y11 b (ng d) B1 B2:=⟨_,_,z64 hb (w9j hd)⟩
 have ngc:∀ x:Pt,crs (ng d) x= - crs d x:=fun x=>by simp only [crs,ng]; grind
 have ngd:∀ x:Pt,dt (ng d) x= - dt d x:=fun x=>by simp only [dt,ng]; grind
 have a1:crs d (sb p1 A1)=0:=by
  have h1:=fa A1 FA.ina
  have h2:=FA.left p1 hp1
  have e:crs d (sb p1 A1)= - crs d (sb A1 p1):=z9i ..
  omega
 have a2:crs d (sb p2 A1)=0:=by
  have e:crs d (sb p2 A1)=crs d (sb p2 p1)+crs d (sb p1 A1):=by simp only [crs,sb]; grind
  omega
 have b1:crs d (sb q1 B1)=0:=by
  have h1:=fb B1 FB.ina
  have h2:=FB.left q1 hq1
  rw [ngc] at h2
  omega
 have b2:crs d (sb q2 B1)=0:=by
  have e:crs d (sb q2 B1)=crs d (sb q1 B1) - crs d (sb q1 q2):=by simp only [crs,sb]; grind
  omega
 have oa1:=(FA.on p1 hp1 a1).1
 have oa2:=(FA.on p2 hp2 a2).2
 have ob1:=(FB.on q1 hq1 (by rw [ngc]; omega)).1
 have ob2:=(FB.on q2 hq2 (by rw [ngc]; omega)).2
 rw [ngd] at ob1 ob2
 have ku:dt d u=dt d p1 - dt d q1:=by rw [e1]; simp only [dt,sb]; grind
 have kv:dt d v=dt d p2 - dt d q2:=by rw [e2]; simp only [dt,sb]; grind
 have cu:dt u d=dt d u:=by simp only [dt]; grind
 have cv:dt v d=dt d v:=by simp only [dt]; grind
 simp only [z91] at oa1 oa2 ob1 ob2
 have o1:dt d A1<dt d B1:=by omega
 have o2:dt d B2<dt d A2:=by omega
 have hC:crs d u=crs d p1 - crs d q1:=by rw [e1]; simp only [crs,sb]; grind
 have hcuv:crs u v*crs u v=crs d u*crs d u:=by
  have:crs u v= - crs d u:=by rw [←hde]; simp only [crs,sb]; grind
  rw [this,Int.neg_mul_neg]
 have fin:∀ x:Pt,0<x.2→x.1*dt d d≤crs d u*crs d u*x.2→x.1*(fr (crs u v*crs u v).toNat (far u v).toNat).2≤(fr (crs u v*crs u v).toNat (far u v).toNat).1*x.2:=by
  intro x hx0 hx
  have hf:far u v=dt d d:=by rw [z9e,hde]
  have hpos:0<(far u v).toNat:=by omega
  have hat:=(w5j (n:=(crs u v*crs u v).toNat) (d:=(far u v).toNat) (A:=dt d d) (B:=crs d u*crs d u) hpos).2 (by
   rw [Int.toNat_of_nonneg (z27 _),Int.toNat_of_nonneg (by omega),hcuv,hf])
  have hp:=y5j (n:=(crs u v*crs u v).toNat) hpos
  generalize fr (crs u v*crs u v).toNat (far u v).toNat=y at*
  have h3:=Int.mul_le_mul_of_nonneg_right hx (show 0≤y.2 by omega)
  have e3:x.1*dt d d*y.2=(x.1*y.2)*dt d d:=by grind
  have e4:crs d u*crs d u*x.2*y.2=(crs d u*crs d u*y.2)*x.2:=by grind
  rw [e3,e4, ←hat] at h3
  have e5:y.1*dt d d*x.2=(y.1*x.2)*dt d d:=by grind
  rw [e5] at h3
  exact Int.le_of_mul_le_mul_right h3 hdd
 have pB:=FB.par
 rw [ngc] at pB
 have cA:crs d A1=crs d p1:=by have:=z6o d p1 A1; omega
 have cA2:crs d A2=crs d A1:=by have:=FA.par; have:=z6o d A2 A1; omega
 have cB:crs d B1=crs d q1:=by have:=z6o d q1 B1; omega
 have cB2:crs d B2=crs d B1:=by have:=z6o d B2 B1; omega
 rcases Int.lt_trichotomy (dt d A1) (dt d B2) with h|h|h
 ·
  have hAne:A1≠A2:=by intro e; rw [e] at h; omega
  obtain ⟨x,x1,x2,x3⟩:=x1p ha (p:=B2) (d:=d) (C:=crs d u) FA.ina (face_nx FA hAne hd) hd (by have:=FA.par; simp only [crs,sb] at this⊢; grind)
   (by
    have e5:dt (sb A2 A1) d=dt d A2 - dt d A1:=by simp only [dt,sb]; grind
    rw [e5,z91]; exact Int.mul_pos (by omega) (by omega))
   (by
    have e5:dt (sb A2 A1) d=dt d A2 - dt d A1:=by simp only [dt,sb]; grind
    rw [e5,z91]
    have:=Int.mul_pos (show 0<dt d A2 - dt d A1 by omega) (show 0<dt d A2 - dt d B2 by omega)
    have e6:(dt d A2 - dt d A1)*(dt d B2 - dt d A2)= - ((dt d A2 - dt d A1)*(dt d A2 - dt d B2)):=by grind
    omega)
   (by
    have:crs d (sb B2 A1)= - crs d u:=by rw [z6o]; omega
    rw [this,Int.neg_mul_neg])
  exact ⟨x,List.mem_append.2 (.inr (List.mem_flatMap.2 ⟨B2,FB.inb,x1⟩)),x2,fin x x2 x3⟩
 ·
  have hpos:0<(frd A1 B2).2:=by
   have:=y5j (n:=(dt (sb B2 A1) (sb B2 A1)).toNat) (d:=1) (by omega)
   unfold frd; omega
  refine ⟨frd A1 B2,List.mem_append.2 (.inl (List.mem_flatMap.2 ⟨A1,FA.ina,z9v.2 (.inl ⟨B2,FB.inb,rfl⟩)⟩)),hpos,fin _ hpos ?_⟩
  unfold frd
  rw [x6p (by omega),Int.toNat_of_nonneg (z2r _)]
  have hl:=lag (sb B2 A1) d
  have e6:dt (sb B2 A1) d=0:=by
   have:dt (sb B2 A1) d=dt d B2 - dt d A1:=by simp only [dt,sb]; grind
   omega
  have e7:crs (sb B2 A1) d=crs d u:=by
   have:crs (sb B2 A1) d=crs d A1 - crs d B2:=by simp only [crs,sb]; grind
   omega
  rw [e6,e7] at hl
  rw [hl]; simp
 ·
  have hBne:B1≠B2:=by intro e; rw [←e] at h; omega
  obtain ⟨x,x1,x2,x3⟩:=x1p hb (p:=A1) (d:=d) (C:=crs d u) FB.ina (face_nx FB hBne (w9j hd)) hd (by have:=pB; simp only [crs,sb] at this⊢; grind)
   (by
    have e5:dt (sb B2 B1) d=dt d B2 - dt d B1:=by simp only [dt,sb]; grind
    rw [e5,z91]
    have:=Int.mul_pos (show 0<dt d B1 - dt d B2 by omega) (show 0<dt d B1 - dt d A1 by omega)
    have e6:(dt d B2 - dt d B1)*(dt d A1 - dt d B1)=(dt d B1 - dt d B2)*(dt d B1 - dt d A1):=by grind
    omega)
   (by
    have e5:dt (sb B2 B1) d=dt d B2 - dt d B1:=by simp only [dt,sb]; grind
    rw [e5,z91]
    have:=Int.mul_pos (show 0<dt d B1 - dt d B2 by omega) (show 0<dt d A1 - dt d B2 by omega)
    have e6:(dt d B2 - dt d B1)*(dt d A1 - dt d B2)= - ((dt d B1 - dt d B2)*(dt d A1 - dt d B2)):=by grind
    omega)
   (by
    have:crs d (sb A1 B1)=crs d u:=by rw [z6o]; omega
    rw [this])
  exact ⟨x,List.mem_append.2 (.inl (List.mem_flatMap.2 ⟨A1,FA.ina,x1⟩)),x2,fin x x2 x3⟩
end Go.Am
end
section
namespace Go.Am
section
variable {κ ν:Type} [DecidableEq κ]
def w77:List (κ×ν)→κ→Nat→Option (Nat×ν)
 |[],_,_=>none
 |(k',v)::r,k,i=>if k=k' then some (i,v) else w77 r k (i+1)
def y3d:List (κ×ν)→κ→Option ν
 |[],_=>none
 |(k',v)::r,k=>if k=k' then some v else y3d r k
def v69:List (κ×ν)→κ→ν→List (κ×ν)
 |[],_,_=>[]
 |(k',w)::r,k,v=>if k=k' then (k,v)::r else (k',w)::v69 r k v
def v7a (m:List (κ×ν)) (k:κ) (v:ν):List (κ×ν):=match y3d m k with
 |some _=>v69 m k v
 |none=>m++[(k,v)]
theorem x0e (k:κ):∀ (m:List (κ×ν)) (i:Nat),(w77 m k i).map (·.2)=y3d m k
 |[],i=>rfl
 |(k',v)::r,i=>by
  simp only [w77,y3d]
  split
  ·rfl
  ·exact x0e k r (i+1)
theorem x7a (k:κ) (v:ν) (k':κ):∀ m:List (κ×ν),y3d (v69 m k v) k'=if k'=k then (y3d m k).map fun _=>v else y3d m k'
 |[]=>by simp [v69,y3d]
 |(x,w)::r=>by
  have ih:=x7a k v k' r
  simp only [v69]
  by_cases h:k=x
  ·rw [if_pos h]; subst h
   by_cases h':k'=k
   ·simp [y3d,h']
   ·simp [y3d,h']
  ·rw [if_neg h]
   simp only [y3d]
   rw [ih]
   by_cases h':k'=x
   ·subst h'
    rw [if_pos rfl,if_neg (fun e=>h e.symm)]
    simp
   ·rw [if_neg h']
    by_cases h'':k'=k
    ·subst h''; rw [if_pos rfl,if_pos rfl,if_neg h]
    ·rw [if_neg h'',if_neg h'',if_neg h']
theorem y54 (k':κ) (l:List (κ×ν)):∀ m:List (κ×ν),y3d (m++l) k'=(y3d m k').or (y3d l k')
 |[]=>by simp [y3d]
 |(x,w)::r=>by
  simp only [List.cons_append,y3d,y54 k' l r]
  split<;>rfl
theorem w6u (m:List (κ×ν)) (k:κ) (v:ν) (k':κ):y3d (v7a m k v) k'=if k'=k then some v else y3d m k':=by
 unfold v7a
 cases h:y3d m k with
 |some w=>simp only [x7a,h,Option.map_some]
 |none=>
  simp only [y54,y3d]
  by_cases e:k'=k
  ·subst e; simp [h]
  ·simp [e]
end
structure w78 (κ ν:Type) where
 ke:κ→D
 ve:ν→D
 ks:List SK
 ka:Bool
 va:Bool
 ck:List CK
structure w78.Ok {κ ν:Type} [DecidableEq κ] (E:w78 κ ν):Prop where
 agg:∀ k,z1x (E.ke k)=E.ka
 kinds:∀ k,z1o E.ks (z05 (E.ke k))=true
 eq:∀ a b,z8o E.ks (z05 (E.ke a)) (z05 (E.ke b))=some (decide (a=b))
 vagg:∀ v,z1x (E.ve v)=E.va
 vok:∀ v,z2y E.ck (z05 (E.ve v))=true
def w78.enc {κ ν:Type} (E:w78 κ ν) (m:List (κ×ν)):List (D×D):=m.map fun e=>(E.ke e.1,E.ve e.2)
section
variable {κ ν:Type} [DecidableEq κ] {E:w78 κ ν} (h:E.Ok)
include h
theorem y5n (k:κ):∀ (m:List (κ×ν)) (i:Nat),y5o E.ks E.ka (E.ke k) (E.enc m) i=some ((w77 m k i).map fun x=>(x.1,E.ve x.2))
 |[],i=>rfl
 |(k',v)::r,i=>by
  have ih:=y5n k r (i+1)
  unfold w78.enc at ih⊢
  simp only [List.map_cons,y5o,h.agg,beq_self_eq_true,Bool.and_self,cond_true,h.eq,w77]
  by_cases e:k=k'
  ·simp [e]
  ·simp [e,ih]
theorem w01 (m:List (κ×ν)) (k:κ):std.mOk (E.enc m) E.ks E.ka (E.ke k) E.va E.ck=true:=by
 show ((z1x (E.ke k)==E.ka)&&z1o E.ks (z05 (E.ke k))&&match y5o E.ks E.ka (E.ke k) (E.enc m) 0 with|some none=>true|some (some (_,v))=>(z1x v==E.va)&&z2y E.ck (z05 v)|none=>false)=true
 rw [y5n h,h.agg,h.kinds]
 cases w77 m k 0 with
 |none=>simp
 |some x=>simp [h.vagg,h.vok]
theorem x59 (m:List (κ×ν)) (k:κ):w3p (E.enc m) E.ks E.ka (E.ke k)=(w77 m k 0).map fun x=>(x.1,E.ve x.2):=by
 unfold w3p; rw [y5n h]; rfl
theorem x58 (m:List (κ×ν)) (k:κ):std.mhas (E.enc m) E.ks E.ka (E.ke k)=(y3d m k).isSome:=by
 show (w3p _ _ _ _).isSome=_
 rw [x59 h, ←x0e k m 0]; simp
theorem w00 (m:List (κ×ν)) (k:κ) (j:Nat) {v:ν} (hv:y3d m k=some v):y6m (E.enc m) E.ks E.ka (E.ke k) j=((z05 (E.ve v))[j]?).getD .nilp:=by
 unfold y6m
 rw [x59 h]
 rw [←x0e k m 0] at hv
 cases ha:w77 m k 0 with
 |none=>rw [ha] at hv; cases hv
 |some x=>rw [ha] at hv; cases hv; rfl
theorem v36 (m:List (κ×ν)) (k:κ) (j:Nat) {v:ν} (hv:y3d m k=some v):std.mI (E.enc m) E.ks E.ka (E.ke k) j=dI (((z05 (E.ve v))[j]?).getD .nilp):=by
 show dI (y6m _ _ _ _ _)=_
 rw [w00 h m k j hv]
theorem w4x (m:List (κ×ν)) (k:κ) (hv:y3d m k=none) (w:ν):std.madd (E.enc m) (E.ke k) (E.ve w)=E.enc (v7a m k w):=by
 show E.enc m++[(E.ke k,E.ve w)]=_
 simp [v7a,hv,w78.enc]
end
end Go.Am
end
section
namespace Go.Am
open M06
theorem y9e {p q:Prop} {_:Decidable p} {_:Decidable q} (h:p↔q):(if p then some (1:Int) else none)=if q then some 1 else none:=by
 by_cases hx:p
 ·rw [if_pos hx,if_pos (h.1 hx)]
 ·rw [if_neg hx,if_neg (fun k=>hx (h.2 k))]
theorem y1o {gs:List (List Pt×List (List Pt))} {i:Nat} {g:List Pt×List (List Pt)} (h:gs[i]?=some g):(z9g gs)[i]?=some [.list false 2 (z0d g.1), .list false 1 (z1i g.2)]:=by
 unfold z9g eG; rw [List.getElem?_map,h]; rfl
theorem z1r (gs:List (List Pt×List (List Pt))):(z9g gs).length=gs.length:=by simp [z9g]
noncomputable def oG (g:List Pt×List (List Pt)):List D:=[.ref [.list false 2 (z0d g.1), .list false 1 (z1i g.2), .list false 2 (z0d (z1k (z1y g.1 g.2)))]]
noncomputable def y1n (gs:List (List Pt×List (List Pt))):List (List D):=gs.map oG
theorem y9p {gs:List (List Pt×List (List Pt))} {i:Nat} {g:List Pt×List (List Pt)} (h:gs[i]?=some g):(y1n gs)[i]?=some [.ref [.list false 2 (z0d g.1), .list false 1 (z1i g.2), .list false 2 (z0d (z1k (z1y g.1 g.2)))]]:=by
 unfold y1n; rw [List.getElem?_map,h]; rfl
theorem z8q (gs:List (List Pt×List (List Pt))):(y1n gs).length=gs.length:=by simp [y1n]
theorem y95 (a b c:List (List D)):z2y [.ref [.list 2, .list 1, .list 2]] [D.ref [.list false 2 a, .list false 1 b, .list false 2 c]]=true:=rfl
theorem z67 (a b:List (List D)):z2y [.list 2, .list 1] [D.list false 2 a, .list false 1 b]=true:=rfl
theorem y26 (a b:List (List D)):dL (([D.list false 2 a,D.list false 1 b]:List D)[0]?.getD .nilp)=a:=rfl
theorem y25 (a b:List (List D)):dL (([D.list false 2 a,D.list false 1 b]:List D)[1]?.getD .nilp)=b:=rfl
theorem w0h {gs:List (List Pt×List (List Pt))} {i:Nat} {g:List Pt×List (List Pt)} (h:gs[i]?=some g):std.rdR (y1n gs) i 0=[[.list false 2 (z0d g.1), .list false 1 (z1i g.2), .list false 2 (z0d (z1k (z1y g.1 g.2)))]]:=by
 show dR (rdD (y1n gs) i 0)=_
 unfold rdD; rw [y9p h]; rfl
theorem v5m (a b c:List (List D)):dL ((([[D.list false 2 a, .list false 1 b, .list false 2 c]]:List (List D))[0]?.bind (fun r=>r[0]?)).getD .nilp)=a:=rfl
theorem v5l (a b c:List (List D)):dL ((([[D.list false 2 a, .list false 1 b, .list false 2 c]]:List (List D))[0]?.bind (fun r=>r[1]?)).getD .nilp)=b:=rfl
theorem w17 (a b c:List (List D)):dL ((([[D.list false 2 a, .list false 1 b, .list false 2 c]]:List (List D))[0]?.bind (fun r=>r[2]?)).getD .nilp)=c:=rfl
theorem x17 {gs:List (List Pt×List (List Pt))} (h8:gs.length≤8):z3w (x28 it0 std) ([],z9g gs,(gs.length:Int),0,())=match gs.find? (fun g=>decide (z51 g.1 g.2≠0)) with
  |some g=>some (.inl (0,0,z51 g.1 g.2,()))
  |none=>some (.inr (y1n gs,())):=by
 have key:=z3d (b:=x28 it0 std) gs.length (fun i=>(y1n (gs.take i),z9g gs,(gs.length:Int),(i:Int),())) (fun i=>decide (z51 (gs.getD i ([],[])).1 (gs.getD i ([],[])).2≠0)) (fun i=> .inl (0,0,z51 (gs.getD i ([],[])).1 (gs.getD i ([],[])).2,())) (.inr (y1n gs,())) (fun i hi=>by
  obtain ⟨g,hg⟩:=z0l hi
  have ge:=y1o hg
  have hgd:gs.getD i ([],[])=g:=by rw [List.getD_eq_getElem?_getD,hg]; rfl
  rw [hgd]
  have c1:(i:Int)<(gs.length:Int):=by omega
  have c2:(i:Int)≥0:=by omega
  have hw:=z00 (i:=i) (by omega)
  by_cases h:z51 g.1 g.2=0
  ·have hf:=z5z.1 h
   have h48:g48 it0 std (z0d g.1,z1i g.2,())=_:=x7h hf
   have hl:(gs.take i).length=i:=by rw [List.length_take]; omega
   have htk:(y1n (gs.take i)).take i=y1n (gs.take i):=by rw [List.take_of_length_le (by rw [z8q]; omega)]
   have hap:y1n (gs.take i)++[[.ref [.list false 2 (z0d g.1), .list false 1 (z1i g.2), .list false 2 (z0d (z1k (z1y g.1 g.2)))]]]=y1n (gs.take (i+1)):=by rw [z0m hg]; simp [y1n,oG]
   have hl':(gs.take (i+1)).length=i+1:=by rw [List.length_take]; omega
   have c3:i+1≤1000000:=by omega
   simp only [x28,it0_eq,z0q,z0r,z67,y26,y25,ge,c1,c2,h48,h,z8q,hl,htk,hap,hl',c3,z0a,hw,List.drop_zero,List.take_succ_cons,List.take_zero,Nat.le_refl,ne_eq,not_true]
  ·have h48:g48 it0 std (z0d g.1,z1i g.2,())=_:=x48 h
   simp only [x28,it0_eq,z0q,z0r,z67,y26,y25,ge,c1,c2,h48,h,ne_eq,not_false_eq_true]) (by
  have hn:¬ ((gs.length:Int)<(gs.length:Int)):=by omega
  simp only [x28,z0q,z0r,hn,List.take_length])
 have e0:(y1n (gs.take 0),z9g gs,(gs.length:Int),((0:Nat):Int),())=([],z9g gs,(gs.length:Int),(0:Int),()):=rfl
 rw [e0] at key
 rcases key with ⟨i,i1,i2,i3,i4⟩|⟨i1,i2⟩
 ·rw [y5l (d:=([],[])) (P:=fun g=>decide (z51 g.1 g.2≠0)) i1 i2 i3]; exact i4
 ·rw [y5m (d:=([],[])) (P:=fun g=>decide (z51 g.1 g.2≠0)) i1]; exact i2
def EPr:w78 (Int×Int) Int:=⟨fun k=> .agg [.int .i64 k.1, .int .i64 k.2],fun v=> .int .i64 v,[.i, .i],true,false,[.int .i64]⟩
theorem y8f:EPr.Ok where
 agg:=fun _=>rfl
 kinds:=fun _=>rfl
 eq:=fun a b=>by
  show some (decide (a.1=b.1)&&(decide (a.2=b.2)&&true))=_
  rw [Bool.and_true, ←Bool.decide_and,Option.some.injEq,decide_eq_decide,Prod.ext_iff]
 vagg:=fun _=>rfl
 vok:=fun _=>rfl
def y3u (gs:List (List Pt×List (List Pt))) (k i:Nat) (x:Nat×Nat):Prop:=
 x.1<x.2∧(x.2<k∨x.2=k∧x.1<i)∧z4o (gs.getD x.1 ([],[])).1 (gs.getD x.1 ([],[])).2 (gs.getD x.2 ([],[])).1 (gs.getD x.2 ([],[])).2=true
open Classical in
def w6y (gs:List (List Pt×List (List Pt))) (k i:Nat) (m:List ((Int×Int)×Int)):Prop:=∀ x:Nat×Nat,y3d m ((x.1:Int),(x.2:Int))=if y3u gs k i x then some 1 else none
theorem w4m {gs:List (List Pt×List (List Pt))} (h8:gs.length≤8) (hf:∀ g∈gs,z5n g.1 g.2) {k:Nat} {h:List Pt×List (List Pt)} (hk:gs[k]?=some h) {m:List ((Int×Int)×Int)} (hm:w6y gs k 0 m) (n:Int):
  ∃ m',w6y gs (k+1) 0 m'∧z3w (x27 it0 std) (y1n gs,EPr.enc m,(k:Int),z0d h.1,z1i h.2,z0d (z1k (z1y h.1 h.2)),n,(k:Int),0,k,k,(k:Int),0,())=some (y1n gs,EPr.enc m',n,(k:Int),()):=by
 have hkl:k<gs.length:=(List.getElem?_eq_some_iff.1 hk).1
 have key:=z2c (b:=x27 it0 std) k (fun (m:List ((Int×Int)×Int)) i=>(y1n gs,EPr.enc m,(k:Int),z0d h.1,z1i h.2,z0d (z1k (z1y h.1 h.2)),n,(k:Int),0,k,k,(k:Int),(i:Int),())) (fun m i=>w6y gs k i m) (fun r=>∃ m',w6y gs (k+1) 0 m'∧r=(y1n gs,EPr.enc m',n,(k:Int),())) ?_ ?_ m 0 (Nat.zero_le _) hm
 ·obtain ⟨r,h1,m',h2,rfl⟩:=key
  exact ⟨m',h2,h1⟩
 ·intro m i hi hm
  left
  obtain ⟨g,hg⟩:=z0l (l:=gs) (i:=i) (by omega)
  have ge:=y9p hg
  have gr:=w0h hg
  have h63:=x0l (hf g (List.mem_of_getElem? hg)) (hf h (List.mem_of_getElem? hk))
  have hcl:=y2o (hf g (List.mem_of_getElem? hg)) (hf h (List.mem_of_getElem? hk))
  rw [hcl] at h63
  have hw:=z00 (i:=i) (by omega)
  have c1:(i:Int)<(k:Int):=by omega
  have c2:(i:Int)≥0:=by omega
  have gi:gs.getD i ([],[])=g:=by rw [List.getD_eq_getElem?_getD,hg]; rfl
  have gk:gs.getD k ([],[])=h:=by rw [List.getD_eq_getElem?_getD,hk]; rfl
  have mok:=w01 y8f m ((i:Int),(k:Int))
  have mhas:=x58 y8f m ((i:Int),(k:Int))
  have hno:¬ y3u gs k i (i,k):=by rintro ⟨_,h1|⟨_,h1⟩,_⟩<;>simp at h1
  have hv:y3d m ((i:Int),(k:Int))=none:=by have:=hm (i,k); rw [if_neg hno] at this; exact this
  rw [hv] at mhas
  change std.mOk (EPr.enc m) [SK.i,SK.i] true (.agg [.int .i64 i, .int .i64 k]) false [.int .i64]=true at mok
  change std.mhas (EPr.enc m) [SK.i,SK.i] true (.agg [.int .i64 i, .int .i64 k])=false at mhas
  have ms:=w4x y8f m ((i:Int),(k:Int)) hv 1
  change std.madd (EPr.enc m) (.agg [.int .i64 i, .int .i64 k]) (.int .i64 1)=_ at ms
  have e01:IntKind.i64.wrap ((0:Int)+1)=1:=by decide
  cases hc:z4o g.1 g.2 h.1 h.2 with
  |false=>
   refine ⟨m,?_,fun x=>?_⟩
   ·rw [hc] at h63
    simp only [x27,it0_eq,z0q,z0r,w17,ge,gr,y95,c1,c2,h63,z0a,hw]
   ·rw [hm x]
    have:y3u gs k i x↔y3u gs k (i+1) x:=by
     unfold y3u
     constructor
     ·rintro ⟨a,b,c⟩; exact ⟨a,by omega,c⟩
     ·rintro ⟨a,b,c⟩
      refine ⟨a,?_,c⟩
      rcases b with b|⟨b,b'⟩
      ·exact .inl b
      ·rcases Nat.lt_or_ge x.1 i with h|h
       ·exact .inr ⟨b,h⟩
       ·have:x.1=i:=by omega
        rw [this,b,gi,gk,hc] at c; cases c
    exact y9e this
  |true=>
   refine ⟨v7a m ((i:Int),(k:Int)) 1,?_,fun x=>?_⟩
   ·rw [hc] at h63
    simp only [x27,it0_eq,z0q,z0r,w17,ge,gr,y95,c1,c2,h63,z0a,hw,mok,mhas,e01,ms]
   ·rw [w6u,hm x]
    by_cases e:x=(i,k)
    ·subst e
     rw [if_pos rfl,if_pos ⟨hi, .inr ⟨rfl,Nat.lt_succ_self _⟩,by simp only; rw [gi,gk,hc]⟩]
    ·rw [if_neg (fun h=>e (by have:=Prod.mk.inj h; exact Prod.ext (by simp only; omega) (by simp only; omega)))]
     have:y3u gs k i x↔y3u gs k (i+1) x:=by
      unfold y3u
      constructor
      ·rintro ⟨a,b,c⟩; exact ⟨a,by omega,c⟩
      ·rintro ⟨a,b,c⟩
       refine ⟨a,?_,c⟩
       rcases b with b|⟨b,b'⟩
       ·exact .inl b
       ·rcases Nat.lt_or_ge x.1 i with h|h
        ·exact .inr ⟨b,h⟩
        ·exact absurd (Prod.ext (by simp only; omega) (by simp only; omega)) e
     exact y9e this
 ·intro m hm
  refine ⟨_,?_,m,fun x=>?_,rfl⟩
  ·simp only [x27,z0q,z0r,Int.lt_irrefl]
  ·rw [hm x]
   have:y3u gs k k x↔y3u gs (k+1) 0 x:=by
    unfold y3u
    constructor
    ·rintro ⟨a,b,c⟩; exact ⟨a,by omega,c⟩
    ·rintro ⟨a,b,c⟩; exact ⟨a,by omega,c⟩
   exact y9e this
theorem w0n {gs:List (List Pt×List (List Pt))} (h8:gs.length≤8) (hf:∀ g∈gs,z5n g.1 g.2):
  ∃ m,w6y gs gs.length 0 m∧z3w (x45 it0 std) (y1n gs,[],(gs.length:Int),0,())=some (y1n gs,EPr.enc m,()):=by
 have key:=z2c (b:=x45 it0 std) gs.length (fun (m:List ((Int×Int)×Int)) k=>(y1n gs,EPr.enc m,(gs.length:Int),(k:Int),())) (fun m k=>w6y gs k 0 m) (fun r=>∃ m,w6y gs gs.length 0 m∧r=(y1n gs,EPr.enc m,())) ?_ ?_ [] 0 (Nat.zero_le _) (fun x=>by
  rw [if_neg (by rintro ⟨a,b,c⟩; omega)]; rfl)
 ·obtain ⟨r,h1,m',h2,rfl⟩:=key
  exact ⟨m',h2,h1⟩
 ·intro m k hk hm
  left
  obtain ⟨h,hh⟩:=z0l hk
  obtain ⟨m',h1,h2⟩:=w4m h8 hf hh hm (gs.length:Int)
  have ge:=y9p hh
  have gr:=w0h hh
  have hw:=z00 (i:=k) (by omega)
  have c1:(k:Int)<(gs.length:Int):=by omega
  have c2:(k:Int)≥0:=by omega
  have c3:(0:Int)≤(k:Int):=by omega
  have c4:(k:Int)≤(gs.length:Int):=by omega
  refine ⟨m',?_,h1⟩
  simp only [x45,it0_eq,z0q,z0r,v5m,v5l,w17,ge,gr,z8q,y95,c1,c2,c3,c4,Nat.add_zero,Nat.sub_zero,Int.toNat_zero,Int.le_refl,ge_iff_le,h2,z0a,hw]
 ·intro m hm
  refine ⟨_,?_,m,hm,rfl⟩
  simp only [x45,z0q,z0r,Int.lt_irrefl]
noncomputable def cl (gs:List (List Pt×List (List Pt))) (i k:Nat):Bool:=z4o (gs.getD i ([],[])).1 (gs.getD i ([],[])).2 (gs.getD k ([],[])).1 (gs.getD k ([],[])).2
theorem w4z {gs:List (List Pt×List (List Pt))} (h8:gs.length≤8) {m:List ((Int×Int)×Int)} (hm:w6y gs gs.length 0 m) (i:Nat):
  ∃ r,z3w (x9f std) (y1n gs,EPr.enc m,(i:Int),(gs.length:Int),(i:Int),(gs.length:Int),0,())=some r∧
   ((∃ k,i<k∧k<gs.length∧cl gs i k=true∧(∀ j,i<j→j<k→cl gs i j=false)∧r= .inl ((i:Int),(k:Int),0,()))∨((∀ j,i<j→j<gs.length→cl gs i j=false)∧r= .inr (y1n gs,EPr.enc m,(gs.length:Int),(i:Int),()))):=by
 have key:=z2c (b:=x9f std) gs.length (fun (_:Unit) k=>(y1n gs,EPr.enc m,(i:Int),(gs.length:Int),(i:Int),(gs.length:Int),(k:Int),())) (fun _ k=>∀ j,i<j→j<k→cl gs i j=false) (fun r=>(∃ k,i<k∧k<gs.length∧cl gs i k=true∧(∀ j,i<j→j<k→cl gs i j=false)∧r= .inl ((i:Int),(k:Int),0,()))∨((∀ j,i<j→j<gs.length→cl gs i j=false)∧r= .inr (y1n gs,EPr.enc m,(gs.length:Int),(i:Int),()))) ?_ ?_ () 0 (Nat.zero_le _) (fun j _ h=>by omega)
 ·exact key
 ·intro _ k hk hI
  have hw:=z00 (i:=k) (by omega)
  have c1:(k:Int)<(gs.length:Int):=by omega
  have mok:=w01 y8f m ((i:Int),(k:Int))
  have mhas:=x58 y8f m ((i:Int),(k:Int))
  have hv:=hm (i,k)
  change std.mOk (EPr.enc m) [SK.i,SK.i] true (.agg [.int .i64 i, .int .i64 k]) false [.int .i64]=true at mok
  have e10:(1:Int)>0:=by decide
  have e00:¬ (0:Int)>0:=by decide
  by_cases hF:y3u gs gs.length 0 (i,k)
  ·right
   rw [if_pos hF] at hv
   rw [hv] at mhas
   change std.mhas (EPr.enc m) [SK.i,SK.i] true (.agg [.int .i64 i, .int .i64 k])=true at mhas
   have mi:=v36 y8f m ((i:Int),(k:Int)) 0 hv
   change std.mI (EPr.enc m) [SK.i,SK.i] true (.agg [.int .i64 i, .int .i64 k]) 0=1 at mi
   refine ⟨_,?_, .inl ⟨k,hF.1,hk,hF.2.2,hI,rfl⟩⟩
   simp only [x9f,z0q,z0r,c1,mok,mhas,mi,e10]
  ·left
   rw [if_neg hF] at hv
   rw [hv] at mhas
   change std.mhas (EPr.enc m) [SK.i,SK.i] true (.agg [.int .i64 i, .int .i64 k])=false at mhas
   refine ⟨(),?_,fun j h1 h2=>?_⟩
   ·simp only [x9f,z0q,z0r,c1,mok,mhas,e00,z0a,hw]
   ·rcases Nat.lt_or_ge j k with h|h
    ·exact hI j h1 h
    ·have:j=k:=by omega
     subst this
     cases hc:cl gs i j with
     |false=>rfl
     |true=>exact absurd ⟨h1, .inl hk,hc⟩ hF
 ·intro _ hI
  refine ⟨_,?_, .inr ⟨hI,rfl⟩⟩
  simp only [x9f,z0q,z0r,Int.lt_irrefl]
def z13 (gs:List (List Pt×List (List Pt))) (r:Option (Nat×Nat)):Prop:=
 match r with
 |some (a,b)=>a<b∧b<gs.length∧cl gs a b=true∧∀ i k,i<k→k<gs.length→(i<a∨i=a∧k<b)→cl gs i k=false
 |none=>∀ i k,i<k→k<gs.length→cl gs i k=false
theorem w02 {gs:List (List Pt×List (List Pt))} (h8:gs.length≤8) {m:List ((Int×Int)×Int)} (hm:w6y gs gs.length 0 m):
  ∃ r,z3w (x26 it0 std) (y1n gs,EPr.enc m,(gs.length:Int),0,())=some r∧((∃ a b,z13 gs (some (a,b))∧r= .inl ((a:Int),(b:Int),0,()))∨(z13 gs none∧r= .inr ())):=by
 have key:=z2c (b:=x26 it0 std) gs.length (fun (_:Unit) i=>(y1n gs,EPr.enc m,(gs.length:Int),(i:Int),())) (fun _ i=>∀ j k,j<i→j<k→k<gs.length→cl gs j k=false) (fun r=>(∃ a b,z13 gs (some (a,b))∧r= .inl ((a:Int),(b:Int),0,()))∨(z13 gs none∧r= .inr ())) ?_ ?_ () 0 (Nat.zero_le _) (fun j k h=>by omega)
 ·exact key
 ·intro _ i hi hI
  have hw:=z00 (i:=i) (by omega)
  have c1:(i:Int)<(gs.length:Int):=by omega
  obtain ⟨r,h1,h2⟩:=w4z h8 hm i
  rcases h2 with ⟨k,k1,k2,k3,k4,rfl⟩|⟨k1,rfl⟩
  ·right
   refine ⟨_,?_, .inl ⟨i,k,⟨k1,k2,k3,fun i' k' a b c=>?_⟩,rfl⟩⟩
   ·simp only [x26,it0_eq,z0q,z0r,c1,z8q,h1]
   ·rcases c with c|⟨rfl,c⟩
    ·exact hI i' k' c a b
    ·exact k4 k' a c
  ·left
   refine ⟨(),?_,fun j k a b c=>?_⟩
   ·simp only [x26,it0_eq,z0q,z0r,c1,z8q,h1,z0a,hw]
   ·rcases Nat.lt_or_ge j i with h|h
    ·exact hI j k h b c
    ·have:j=i:=by omega
     subst this; exact k1 k b c
 ·intro _ hI
  refine ⟨_,?_, .inr ⟨fun i k a b=>hI i k (by omega) a b,rfl⟩⟩
  simp only [x26,z0q,z0r,Int.lt_irrefl]
theorem w64 {gs:List (List Pt×List (List Pt))} (h:gs.length>8):G27 std (z9g gs,())=some (0,0,6,()):=by
 unfold G27
 have:(gs.length:Int)>8:=by omega
 simp only [g27,z0q,z0r,z1r,this]
theorem v1v {gs:List (List Pt×List (List Pt))} (h8:gs.length≤8) {g:List Pt×List (List Pt)} (h:gs.find? (fun g=>decide (z51 g.1 g.2≠0))=some g):G27 std (z9g gs,())=some (0,0,z51 g.1 g.2,()):=by
 unfold G27
 have c1:¬ (gs.length:Int)>8:=by omega
 have h1:=x17 h8
 rw [h] at h1
 simp only [g27,it0_eq,z0q,z0r,z1r,c1,h1]
theorem v7s {gs:List (List Pt×List (List Pt))} (h8:gs.length≤8) (hf:∀ g∈gs,z5n g.1 g.2):
  (∃ a b,z13 gs (some (a,b))∧G27 std (z9g gs,())=some ((a:Int),(b:Int),0,()))∨(z13 gs none∧G27 std (z9g gs,())=some (0,0,5,())):=by
 unfold G27
 have c1:¬ (gs.length:Int)>8:=by omega
 have h1:=x17 h8
 rw [List.find?_eq_none.2 (fun g hg=>by have:=z5z.2 (hf g hg); simp [this])] at h1
 simp only at h1
 obtain ⟨m,hm,h2⟩:=w0n h8 hf
 obtain ⟨r,h3,h4⟩:=w02 h8 hm
 rcases h4 with ⟨a,b,h4,rfl⟩|⟨h4,rfl⟩
 ·exact .inl ⟨a,b,h4,by simp only [g27,it0_eq,z0q,z0r,z1r,z8q,c1,h1,h2,h3]⟩
 ·exact .inr ⟨h4,by simp only [g27,it0_eq,z0q,z0r,z1r,z8q,c1,h1,h2,h3]⟩
end Go.Am
end
noncomputable section
namespace Go.Am
def ctr5:Ctr:=
 ⟨5,[.agg [.list 2, .list 1], .agg [.list 2, .list 1], .list 2],[],[(.ret,⟨[(0, .bool)],[],1⟩)]⟩
def la5:List LA:=
 [⟨5,[false,true,false,true,true],0,⟨⟨[(2, .list 2),(3, .bptr 0 0),(4, .bptr 1 0),(7, .int .i64)],[.box [.list 2, .list 1], .box [.list 2, .list 1]],92⟩,[(AX.ret,⟨[(6, .bool)],[],92⟩),((AX.exit 0),⟨[(2, .list 2),(3, .bptr 0 0),(4, .bptr 1 0)],[.box [.list 2, .list 1], .box [.list 2, .list 1]],92⟩)]⟩⟩]
def ja5:List JA:=
 [⟨5,[false,true,true,true,true,true,true,true],0,[(AX.normal,⟨[(6, .bool)],[],92⟩)]⟩,
 ⟨5,[false,false,true],0,[(AX.normal,⟨[(2, .list 2),(3, .bptr 0 0),(4, .bptr 1 0),(28, .bool)],[.box [.list 2, .list 1], .box [.list 2, .list 1]],92⟩)]⟩]
def gam5:List CF:=
 [⟨v6e,G28⟩,⟨v1b,G27⟩,⟨v6f,G26⟩,⟨v1c,G25⟩,⟨v6l,G15⟩,⟨v6m,G14⟩]
def an5:Anns:=
 ⟨gam5,ja5,[]⟩
def v18 (p:Prim):(LD×(LD×(LD×(LD×(LD×T1)))))→Option ((LD×(LD×(LD×(LD×(LD×T1)))))⊕((Bool×Unit)⊕(LD×(LD×(LD×(LD×(LD×Unit))))))):=
 fun a=>opt.run _ (
 opt.ask _ (p.cmp .lss a.2.2.2.2.2.1 (p.ofNat (p.len a.2.2.2.2.1))) (
 opt.need _ (p.rowOk a.2.2.2.2.1 (p.nat a.2.2.2.2.2.1) [(CK.list 2),(CK.list 1)])<|
 opt.need _ (p.cmp .geq a.2.2.2.2.2.1 (0:Int))<|
 opt.bnd T2 _ (G14 p ((p.rdL a.2.2.2.2.1 (p.nat a.2.2.2.2.2.1) 0),((p.rdL a.2.2.2.2.1 (p.nat a.2.2.2.2.2.1) 1),()))) fun b=>
 opt.ask _ b.1 (
 opt.bnd T2 _ (G15 p ()) fun c=>
 opt.ret _ (Sum.inr (Sum.inl (c.1,())))) (
 opt.ret _ (Sum.inl (a.1,(a.2.1,(a.2.2.1,(a.2.2.2.1,(a.2.2.2.2.1,((p.ar .add .i64 a.2.2.2.2.2.1 (1:Int)),()))))))))) (
 opt.ret _ (Sum.inr (Sum.inr (a.1,(a.2.1,(a.2.2.1,(a.2.2.2.1,(a.2.2.2.2.1,())))))))))
def G5:(p:Prim)→(LD×(LD×(LD×(LD×(LD×Unit)))))→Option T2:=
 fun p x=>
 opt.bnd ((LD×(LD×(LD×(LD×(LD×T13)))))) _ (
 opt.run ((LD×(LD×(LD×(LD×(LD×T13)))))) (
 opt.bnd T2 _ (G14 p (x.1,(x.2.1,()))) fun a=>
 opt.ask _ a.1 (
 opt.ret _ (x.1,(x.2.1,(x.2.2.1,(x.2.2.2.1,(x.2.2.2.2.1,(Bool.true,()))))))) (
 opt.bnd T2 _ (G14 p (x.2.2.1,(x.2.2.2.1,()))) fun b=>
 opt.ask _ b.1 (
 opt.ret _ (x.1,(x.2.1,(x.2.2.1,(x.2.2.2.1,(x.2.2.2.2.1,(Bool.true,()))))))) (
 opt.ret _ (x.1,(x.2.1,(x.2.2.1,(x.2.2.2.1,(x.2.2.2.2.1,((p.cmp .gtr (p.ofNat (p.len x.2.2.2.2.1)) (10:Int)),())))))))))) fun c=>
 opt.ask _ c.2.2.2.2.2.1 (
 opt.bnd T2 _ (G15 p ()) fun d=>
 opt.ret _ (d.1,())) (
 opt.alt T2 ((LD×(LD×(LD×(LD×(LD×Unit)))))) _ (
 z3w (v18 p) (c.1,(c.2.1,(c.2.2.1,(c.2.2.2.1,(c.2.2.2.2.1,((0:Int),()))))))) (fun e=>
 opt.ret _ (e.1,())) (fun f=>
 opt.bnd ((LD×(LD×(LD×(LD×(LD×Unit)))))) _ (some f) fun g=>
 opt.bnd T5 _ (G25 p (g.1,(g.2.1,(g.2.2.1,(g.2.2.2.1,()))))) fun h=>
 opt.bnd T5 _ (G26 p (g.1,(g.2.1,(g.2.2.1,(g.2.2.2.1,()))))) fun i=>
 opt.bnd T5 _ (G27 p (g.2.2.2.2.1,())) fun j=>
 opt.bnd T5 _ (G28 p (g.2.2.2.2.1,())) fun k=>
 opt.bnd T2 _ (
 opt.run T2 (
 opt.ask _ (bif (p.cmp .eql h.1 i.1) then (bif (p.cmp .eql h.2.1 i.2.1) then Bool.true else Bool.false) else Bool.false) (
 opt.ask _ (p.cmp .eql h.2.2.1 i.2.2.1) (
 opt.ask _ (p.cmp .eql j.1 k.1) (
 opt.ask _ (p.cmp .eql j.2.1 k.2.1) (
 opt.ask _ (p.cmp .eql j.2.2.1 k.2.2.1) (
 opt.bnd T2 _ (G15 p ()) fun l=>
 opt.ret _ (l.1,())) (
 opt.ret _ (Bool.false,()))) (
 opt.ret _ (Bool.false,()))) (
 opt.ret _ (Bool.false,()))) (
 opt.ret _ (Bool.false,()))) (
 opt.ret _ (Bool.false,())))) fun m=>
 opt.ret _ (m.1,())))
theorem ok5:CtrOk PG ctr5 (G5 std):=okF (a:=an5) (l:=la5) (gC ok28 (gC u3j (gC ok26 (gC u3k (gC ok15 (gC ok14 (gN))))))) (by kernel_rfl) fun _ _=>by kernel_rfl
end Go.Am
end
section
namespace Go.Am
open M06
theorem w6f {gs:List (List Pt×List (List Pt))} (h8:gs.length≤8):z3w (x9a it0 std) (z9g gs,0,())=match gs.find? (fun g=>decide (z51 g.1 g.2≠0)) with
  |some g=>some (.inl (0,0,z51 g.1 g.2,()))
  |none=>some (.inr (z9g gs,())):=by
 have key:=z3d (b:=x9a it0 std) gs.length (fun i=>(z9g gs,(i:Int),())) (fun i=>decide (z51 (gs.getD i ([],[])).1 (gs.getD i ([],[])).2≠0)) (fun i=> .inl (0,0,z51 (gs.getD i ([],[])).1 (gs.getD i ([],[])).2,())) (.inr (z9g gs,())) (fun i hi=>by
  obtain ⟨g,hg⟩:=z0l hi
  have ge:=y1o hg
  have hgd:gs.getD i ([],[])=g:=by rw [List.getD_eq_getElem?_getD,hg]; rfl
  rw [hgd]
  have c1:(i:Int)<(gs.length:Int):=by omega
  have c2:(i:Int)≥0:=by omega
  have hw:=z00 (i:=i) (by omega)
  have h19:g19 it0 std (z0d g.1,z1i g.2,())=some (z51 g.1 g.2,()):=w3j g.1 g.2
  by_cases h:z51 g.1 g.2=0
  ·simp only [x9a,z0q,z0r,z1r,z67,y26,y25,ge,c1,c2,h19,h,z0a,hw,ne_eq,not_true]
  ·simp only [x9a,z0q,z0r,z1r,z67,y26,y25,ge,c1,c2,h19,h,z0a,hw,ne_eq,not_false_eq_true]) (by
  have hn:¬ ((gs.length:Int)<(gs.length:Int)):=by omega
  simp only [x9a,z0q,z0r,z1r,hn])
 have e0:(z9g gs,((0:Nat):Int),())=(z9g gs,(0:Int),()):=rfl
 rw [e0] at key
 rcases key with ⟨i,i1,i2,i3,i4⟩|⟨i1,i2⟩
 ·rw [y5l (d:=([],[])) (P:=fun g=>decide (z51 g.1 g.2≠0)) i1 i2 i3]; exact i4
 ·rw [y5m (d:=([],[])) (P:=fun g=>decide (z51 g.1 g.2≠0)) i1]; exact i2
theorem w88 {gs:List (List Pt×List (List Pt))} (h8:gs.length≤8) (hf:∀ g∈gs,z5n g.1 g.2) {i:Nat} (hi:i<gs.length):
  ∃ r,z3w (x88 it0 std) (z9g gs,(i:Int),((i+1:Nat):Int),())=some r∧
   ((∃ k,i<k∧k<gs.length∧cl gs i k=true∧(∀ j,i<j→j<k→cl gs i j=false)∧r= .inl ((i:Int),(k:Int),0,()))∨((∀ j,i<j→j<gs.length→cl gs i j=false)∧r= .inr (z9g gs,(i:Int),()))):=by
 have key:=z2c (b:=x88 it0 std) gs.length (fun (_:Unit) k=>(z9g gs,(i:Int),(k:Int),())) (fun _ k=>i<k∧∀ j,i<j→j<k→cl gs i j=false) (fun r=>(∃ k,i<k∧k<gs.length∧cl gs i k=true∧(∀ j,i<j→j<k→cl gs i j=false)∧r= .inl ((i:Int),(k:Int),0,()))∨((∀ j,i<j→j<gs.length→cl gs i j=false)∧r= .inr (z9g gs,(i:Int),()))) ?_ ?_ () (i+1) hi ⟨Nat.lt_succ_self _,fun j _ h=>by omega⟩
 ·exact key
 ·rintro _ k hk ⟨hik,hI⟩
  have hw:=z00 (i:=k) (by omega)
  have c1:(k:Int)<(gs.length:Int):=by omega
  have c2:(k:Int)≥0:=by omega
  have c3:(i:Int)≥0:=by omega
  obtain ⟨g,hg⟩:=z0l hi
  obtain ⟨h,hh⟩:=z0l hk
  have ge:=y1o hg
  have he:=y1o hh
  have gdi:gs.getD i ([],[])=g:=by rw [List.getD_eq_getElem?_getD,hg]; rfl
  have gdk:gs.getD k ([],[])=h:=by rw [List.getD_eq_getElem?_getD,hh]; rfl
  have h74:g74 it0 std (z0d g.1,z1i g.2,z0d h.1,z1i h.2,())=some (z4o g.1 g.2 h.1 h.2,()):=v7k (hf g (List.mem_of_getElem? hg)) (hf h (List.mem_of_getElem? hh))
  have hcl:z4o g.1 g.2 h.1 h.2=cl gs i k:=by unfold cl; rw [gdi,gdk]
  rw [hcl] at h74
  cases hc:cl gs i k with
  |true=>
   rw [hc] at h74
   right
   refine ⟨_,?_, .inl ⟨k,hik,hk,hc,hI,rfl⟩⟩
   simp only [x88,z0q,z0r,z1r,z67,y26,y25,ge,he,c1,c2,c3,h74]
  |false=>
   rw [hc] at h74
   left
   refine ⟨(),?_,by omega,fun j h1 h2=>?_⟩
   ·simp only [x88,z0q,z0r,z1r,z67,y26,y25,ge,he,c1,c2,c3,h74,z0a,hw]
   ·rcases Nat.lt_or_ge j k with h|h
    ·exact hI j h1 h
    ·have:j=k:=by omega
     rw [this]; exact hc
 ·rintro _ ⟨_,hI⟩
  refine ⟨_,?_, .inr ⟨hI,rfl⟩⟩
  simp only [x88,z0q,z0r,z1r,Int.lt_irrefl]
theorem w4g {gs:List (List Pt×List (List Pt))} (h8:gs.length≤8) (hf:∀ g∈gs,z5n g.1 g.2):
  ∃ r,z3w (x89 it0 std) (z9g gs,0,())=some r∧((∃ a b,z13 gs (some (a,b))∧r= .inl ((a:Int),(b:Int),0,()))∨(z13 gs none∧r= .inr ())):=by
 have key:=z2c (b:=x89 it0 std) gs.length (fun (_:Unit) i=>(z9g gs,(i:Int),())) (fun _ i=>∀ j k,j<i→j<k→k<gs.length→cl gs j k=false) (fun r=>(∃ a b,z13 gs (some (a,b))∧r= .inl ((a:Int),(b:Int),0,()))∨(z13 gs none∧r= .inr ())) ?_ ?_ () 0 (Nat.zero_le _) (fun j k h=>by omega)
 ·exact key
 ·intro _ i hi hI
  have hw:=z00 (i:=i) (by omega)
  have c1:(i:Int)<(gs.length:Int):=by omega
  obtain ⟨r,h1,h2⟩:=w88 h8 hf hi
  rcases h2 with ⟨k,k1,k2,k3,k4,rfl⟩|⟨k1,rfl⟩
  ·right
   refine ⟨_,?_, .inl ⟨i,k,⟨k1,k2,k3,fun i' k' a b c=>?_⟩,rfl⟩⟩
   ·simp only [x89,it0_eq,z0q,z0r,c1,z1r,z0a,hw,h1]
   ·rcases c with c|⟨rfl,c⟩
    ·exact hI i' k' c a b
    ·exact k4 k' a c
  ·left
   refine ⟨(),?_,fun j k a b c=>?_⟩
   ·simp only [x89,it0_eq,z0q,z0r,c1,z1r,h1,z0a,hw]
   ·rcases Nat.lt_or_ge j i with h|h
    ·exact hI j k h b c
    ·have:j=i:=by omega
     subst this; exact k1 k b c
 ·intro _ hI
  refine ⟨_,?_, .inr ⟨fun i k a b=>hI i k (by omega) a b,rfl⟩⟩
  simp only [x89,z0q,z0r,z1r,Int.lt_irrefl]
theorem y9i {gs:List (List Pt×List (List Pt))} {a b c d:Nat} (h1:z13 gs (some (a,b))) (h2:z13 gs (some (c,d))):a=c∧b=d:=by
 obtain ⟨p1,p2,p3,p4⟩:=h1
 obtain ⟨q1,q2,q3,q4⟩:=h2
 have n1:¬ (a<c∨a=c∧b<d):=fun h=>by have:=q4 a b p1 p2 h; rw [p3] at this; cases this
 have n2:¬ (c<a∨c=a∧d<b):=fun h=>by have:=p4 c d q1 q2 h; rw [q3] at this; cases this
 omega
theorem z9c {gs:List (List Pt×List (List Pt))} {a b:Nat} (h1:z13 gs (some (a,b))) (h2:z13 gs none):False:=by
 obtain ⟨p1,p2,p3,p4⟩:=h1
 have:=h2 a b p1 p2
 rw [p3] at this; cases this
theorem x8y (gs:List (List Pt×List (List Pt))):∃ x y z:Int,G27 std (z9g gs,())=some (x,y,z,())∧G28 std (z9g gs,())=some (x,y,z,()):=by
 by_cases h8:gs.length≤8
 case neg=>
  refine ⟨0,0,6,w64 (by omega),?_⟩
  have:(gs.length:Int)>8:=by omega
  unfold G28
  simp only [g28,z0q,z0r,z1r,this]
 have c1:¬ (gs.length:Int)>8:=by omega
 have hl:=w6f h8
 cases hfd:gs.find? (fun g=>decide (z51 g.1 g.2≠0)) with
 |some g=>
  rw [hfd] at hl
  simp only at hl
  refine ⟨0,0,z51 g.1 g.2,v1v h8 hfd,?_⟩
  unfold G28
  simp only [g28,it0_eq,z0q,z0r,z1r,c1,hl]
 |none=>
  rw [hfd] at hl
  simp only at hl
  have hf:∀ g∈gs,z5n g.1 g.2:=fun g hg=>by
   have:=List.find?_eq_none.1 hfd g hg
   exact z5z.1 (by simpa using this)
  obtain ⟨r,h1,h2⟩:=w4g h8 hf
  rcases v7s h8 hf with ⟨a,b,f1,f2⟩|⟨f1,f2⟩
  ·rcases h2 with ⟨c,d,h2,rfl⟩|⟨h2,rfl⟩
   ·obtain ⟨rfl,rfl⟩:=y9i f1 h2
    refine ⟨_,_,_,f2,?_⟩
    unfold G28
    simp only [g28,it0_eq,z0q,z0r,z1r,c1,hl,h1]
   ·exact (z9c f1 h2).elim
  ·rcases h2 with ⟨c,d,h2,rfl⟩|⟨h2,rfl⟩
   ·exact (z9c h2 f1).elim
   ·refine ⟨_,_,_,f2,?_⟩
    unfold G28
    simp only [g28,it0_eq,z0q,z0r,z1r,c1,hl,h1]
theorem w4h {c:List Pt} (kc:∀ x∈c,z0s (-10000) 10000 x):∀ x∈y59 c c.length,Frc x:=fun x hx=>by
 obtain ⟨i,hi,hx⟩:=z37.1 hx
 obtain ⟨u,hu⟩:=z0l hi
 obtain ⟨v,hv⟩:=z0l (l:=c) (i:=(i+1) % c.length) (Nat.mod_lt _ (by omega))
 have h1:sdP c i=u:=z4t hu
 have h2:nxP c i=v:=z4t hv
 have bu:=kc u (List.mem_of_getElem? hu)
 have bv:=kc v (List.mem_of_getElem? hv)
 unfold w0d at hx
 rw [h1,h2] at hx
 rcases List.mem_cons.1 hx with rfl|hx
 ·exact x4l bu
 ·cases hup:upO u v with
  |none=>rw [hup] at hx; simp at hx
  |some y=>rw [hup] at hx; simp only [List.mem_singleton] at hx; subst hx; exact x9u bu bv hup
theorem w9i {l:List Pt} {hs:List (List Pt)} (hf:z5n l hs) {m:List Pt} {ks:List (List Pt)} (hk:z5n m ks) (hc:z4o l hs m ks=false):¬ InH (z1k (dif (z1k (z1y l hs)) (z1k (z1y m ks)))) (0,0) 1:=fun h=>by
 have hD:=z18 (y1r (z3h hf.allNe) (z3h hk.allNe))
 have:z4o l hs m ks=true:=(y2h (z2a hD) (by omega)).2 h
 rw [hc] at this; cases this
theorem w97 {l:List Pt} {hs:List (List Pt)} (hf:z5n l hs) {m:List Pt} {ks:List (List Pt)} (hk:z5n m ks) (hc:z4o l hs m ks=false) {x:Pt} (hx:x∈y6b (z1k (z1y l hs)) (z1k (z1y m ks))):
  ∃ y∈y59 (z1k (dif (z1k (z1y l hs)) (z1k (z1y m ks)))) (z1k (dif (z1k (z1y l hs)) (z1k (z1y m ks)))).length,y.1*x.2≤x.1*y.2:=by
 have hD:=z18 (y1r (z3h hf.allNe) (z3h hk.allNe))
 have hfr:=y9g hf.cyc hk.cyc hf.cbox hk.cbox x hx
 obtain ⟨Z,k,hk0,hZ,hv⟩:=w98 (z2a hf.cyc) (z2a hk.cyc) hx
 obtain ⟨y,y1,y2⟩:=w89 (z2a hD) (w9i hf hk hc) hk0 ((z9y hD (by omega)).1 hZ)
 refine ⟨y,y1,?_⟩
 have h3:=Int.mul_le_mul_of_nonneg_right y2 (Int.le_of_lt hfr.den)
 have e1:y.1*(k*k)*x.2=(y.1*x.2)*(k*k):=by grind
 have e2:dt Z Z*y.2*x.2=(dt Z Z*x.2)*y.2:=by grind
 have e3:x.1*(k*k)*y.2=(x.1*y.2)*(k*k):=by grind
 rw [e1,e2, ←hv,e3] at h3
 exact Int.le_of_mul_le_mul_right h3 (Int.mul_pos hk0 hk0)
theorem w5g (l:List Pt) (hs:List (List Pt)) (m:List Pt) (ks:List (List Pt)):∃ x y z:Int,G25 std (z0d l,z1i hs,z0d m,z1i ks,())=some (x,y,z,())∧G26 std (z0d l,z1i hs,z0d m,z1i ks,())=some (x,y,z,()):=by
 by_cases hc:z51 l hs=0
 case neg=>exact ⟨_,_,_,w66 hc m ks,w3h hc (if_pos hc)⟩
 have hf:=z5z.1 hc
 by_cases hc':z51 m ks=0
 case neg=>exact ⟨_,_,_,w65 hf hc',w3h hc' (if_neg (by simp [hc]))⟩
 have hk:=z5z.1 hc'
 rcases v7l hf hk with ⟨hcl,h73⟩|⟨hcl,w,hw,h73⟩
 ·exact ⟨_,_,_,w3i hf hk hcl,w8m hf hk (v:=(0,1)) h73⟩
 ·obtain ⟨v,hv,h25⟩:=v7t hf hk hcl
  have hbx:=y9s hf.cbox hk.cbox
  have hD:=z18 (y1r (z3h hf.allNe) (z3h hk.allNe))
  have he:v=w:=w48 (y9g hf.cyc hk.cyc hf.cbox hk.cbox) (w4h fun x hx=>hbx x (z4b hD x hx)) (fun x hx=>w97 hf hk hcl hx) (fun y hy=>by
   obtain ⟨x,x1,_,x3⟩:=w4k (z2a hf.cyc) (z2a hk.cyc) hy
   exact ⟨x,x1,x3⟩) hv hw
  subst he
  exact ⟨_,_,_,h25,w8m hf hk h73⟩
theorem x8g {gs:List (List Pt×List (List Pt))} (h8:gs.length≤10) (L1 L2 L3 L4:List (List D)):z3w (v18 std) (L1,L2,L3,L4,z9g gs,0,())=if ∃ g∈gs,z7w g.1 g.2 then some (.inl (true,())) else some (.inr (L1,L2,L3,L4,z9g gs,())):=by
 have key:=z3d (b:=v18 std) gs.length (fun i=>(L1,L2,L3,L4,z9g gs,(i:Int),())) (fun i=>decide (z7w (gs.getD i ([],[])).1 (gs.getD i ([],[])).2)) (fun _=> .inl (true,())) (.inr (L1,L2,L3,L4,z9g gs,())) (fun i hi=>by
  obtain ⟨g,hg⟩:=z0l hi
  have ge:=y1o hg
  have hgd:gs.getD i ([],[])=g:=by rw [List.getD_eq_getElem?_getD,hg]; rfl
  rw [hgd]
  have c1:(i:Int)<(gs.length:Int):=by omega
  have c2:(i:Int)≥0:=by omega
  have hw:=z00 (i:=i) (by omega)
  have h14:=y8e g.1 g.2
  by_cases h:z7w g.1 g.2
  ·simp only [v18,z0q,z0r,z1r,z67,y26,y25,ge,c1,c2,h14,h,y8d,z0a,hw]
  ·simp only [v18,z0q,z0r,z1r,z67,y26,y25,ge,c1,c2,h14,h,y8d,z0a,hw]) (by
  have hn:¬ ((gs.length:Int)<(gs.length:Int)):=by omega
  simp only [v18,z0q,z0r,z1r,hn])
 have e0:(L1,L2,L3,L4,z9g gs,((0:Nat):Int),())=(L1,L2,L3,L4,z9g gs,(0:Int),()):=rfl
 rw [e0] at key
 rcases key with ⟨i,i1,i2,i3,i4⟩|⟨i1,i2⟩
 ·rw [i4,if_pos]
  obtain ⟨g,hg⟩:=z0l i1
  have hgd:gs.getD i ([],[])=g:=by rw [List.getD_eq_getElem?_getD,hg]; rfl
  rw [hgd] at i2
  exact ⟨g,List.mem_of_getElem? hg,by simpa using i2⟩
 ·rw [i2,if_neg]
  rintro ⟨g,hg,hgg⟩
  obtain ⟨i,hi⟩:=List.getElem?_of_mem hg
  have:=i1 i (List.getElem?_eq_some_iff.1 hi).1
  have hgd:gs.getD i ([],[])=g:=by rw [List.getD_eq_getElem?_getD,hi]; rfl
  rw [hgd] at this
  simp [hgg] at this
theorem u2s (l:List Pt) (hs:List (List Pt)) (m:List Pt) (ks:List (List Pt)) (gs:List (List Pt×List (List Pt))):G5 std (z0d l,z1i hs,z0d m,z1i ks,z9g gs,())=some (true,()):=by
 unfold G5
 by_cases g1:z7w l hs
 ·simp only [z0q,z0r,y8e,g1,y8d]
 by_cases g2:z7w m ks
 ·simp only [z0q,z0r,y8e,g1,g2,y8d]
 by_cases g3:gs.length≤10
 case neg=>
  have c1:(gs.length:Int)>10:=by omega
  simp only [z0q,z0r,y8e,g1,g2,z1r,c1,y8d]
 have c1:¬ (gs.length:Int)>10:=by omega
 have hgl:=x8g g3 (z0d l) (z1i hs) (z0d m) (z1i ks)
 by_cases g4:∃ g∈gs,z7w g.1 g.2
 ·rw [if_pos g4] at hgl
  simp only [z0q,z0r,y8e,g1,g2,z1r,c1,hgl]
 rw [if_neg g4] at hgl
 obtain ⟨x,y,z,h25,h26⟩:=w5g l hs m ks
 obtain ⟨u,v,w,h27,h28⟩:=x8y gs
 simp only [z0q,z0r,y8e,g1,g2,z1r,c1,hgl,h25,h26,h27,h28,y8d]
end Go.Am
end
section
namespace Go.Proofs.Ytolfgnbldofcjaa
open Go.ChangeShapes Go.WideShapes Go.ChangeAt Go.RowKit Go.Am
theorem v8p {e0:List (List D)} {e1:List (List D)} {e2:List (List D)} {e3:List (List D)} {e4:List (List D)} (h:G5 std (e0,e1,e2,e3,e4,())=some (true,())):∃ h',z97 Try.prog 5 (toA [.agg [.list false 2 e0, .list false 1 e1], .agg [.list false 2 e2, .list false 1 e3], .list false 2 e4]) [] (.d (.bool true)) h':=by
 have:=(ok5.2 (e0,e1,e2,e3,e4,()) (true,()) h).2
 exact ⟨_,this⟩
theorem shp5:w82 Try.prog 6 Try.f5.params.toList=true:=by kernel_rfl
theorem rt5:Try.f5.resultTypes=#[Try.f5.resultTypes.getD 0 0]:=by kernel_rfl
theorem rb5:Try.prog.underlying (Try.f5.resultTypes.getD 0 0)=some .bool:=by kernel_rfl
theorem v6r:Try.f5.params.toList.all (fun t=>decide (t<Try.prog.types.size))=true:=by kernel_rfl
set_option maxRecDepth 100000 in
theorem w2t (H:Type) (enc:TypeId×Value→H) (W:World) (base:Nat) (args:Array Value) (ds gs:List (DataW H)) (before:List MemPlace)
  (hval:∀ (j:Nat) t v,Try.f5.params[j]?=some t→args[j]?=some v→Value.okWide Try.prog W .any base t v)
  (hW:DataW.Whole enc Try.prog Try.f5.params.toList Rows.signalGapsSpec.vars false W args.toList ds gs before):
  Calls Try.prog 5 args W fun e W'=>∃ v,e= .returned v∧Rows.signalGapsSpec.post enc Try.prog Try.f5 false true false false W args v W':=by
 have hW':=hW
 obtain ⟨p,q,hA0,hV,rfl,hfz,hnd⟩:=hW
 have hA:DataW.TrodAll enc Try.prog W 0 (fun _=>true) true Try.f5.params.toList args.toList ds p:=hA0
 obtain ⟨xs,h1,h2,h3⟩:=w28 (O:=fun _=>False) (fun _ h=>h) shp5 (w1a hval) hA
 have hd:∃ x0 x1 x2,xs=[x0,x1,x2]∧(∃ ds,x0= .agg ds∧DKs [.list [.int .i64, .int .i64], .list [.list [.int .i64, .int .i64]]] ds)∧(∃ ds,x1= .agg ds∧DKs [.list [.int .i64, .int .i64], .list [.list [.int .i64, .int .i64]]] ds)∧(DK (.list [.list [.int .i64, .int .i64], .list [.list [.int .i64, .int .i64]]]) x2):=by
  match xs,h1 with
  |[x0,x1,x2],h1=>exact ⟨x0,x1,x2,rfl,h1.1,h1.2.1,h1.2.2.1⟩
 obtain ⟨x0,x1,x2,rfl,k0,k1,k2⟩:=hd
 obtain ⟨l0,hz0,rfl⟩:=x6l k0
 obtain ⟨l1,hz1,rfl⟩:=x6l k1
 obtain ⟨g2,rfl⟩:=v1g k2
 obtain ⟨h',hr⟩:=v8p (u2s l0 hz0 l1 hz1 g2)
 exact (y99 hr h2 h3).mono fun e W' ⟨he,hs⟩=>⟨_,he,w44 laid rowed sized v6r rfl rt5 rb5 (fun ds hd=>by
  match ds,hd with
  |[d0,d1,d2],_=>exact ⟨rfl,rfl,rfl⟩) hW' hs⟩
set_option maxRecDepth 100000 in
theorem w9v (os:Os) (started:os.Started) (H:Type) (enc:TypeId×Value→H):
  ReturnsInHanded {} Try.checked os 5 .any (Rows.signalGapsSpec.pre6 enc Try.prog Try.f5 Rows.signalGapsRow.domain false) (Rows.signalGapsSpec.post enc Try.prog Try.f5 false true false false):=by
 refine returnsInHanded_of_change (C:=Try.checked) own started (by kernel_rfl) Try.func5
  (ChangeSpec.witness6 (enc:=enc) (C:=Try.checked) false ⟨#[],#[.agg #[.slice none 0 0, .slice none 0 0], .agg #[.slice none 0 0, .slice none 0 0], .slice none 0 0],[]⟩ 8 (by kernel_rfl) (by kernel_rfl) (by kernel_rfl) (by kernel_rfl)) ?_
 intro W base args ds gs before hval hW _ _
 exact w2t H enc W base args ds gs before hval hW
set_option maxRecDepth 100000 in
theorem y4t:Rows.signalGapsRow.holds Try.pinned (OpenSpec.ofChange Rows.signalGapsSpec):=
 OpenClaim.holds_of_wide 5 Try.f5 rfl rfl rfl rfl rfl rfl rfl ⟨rfl,rfl,rfl,rfl,rfl⟩ rfl rfl rfl rfl rfl (by kernel_rfl) Try.func5 (by kernel_rfl)
  (of_decide_eq_true (by kernel_rfl)) (by unfold Func.isWrapper; first|(rw [if_pos (by decide+kernel)]; kernel_rfl)|(rw [if_neg (by decide+kernel)]; exact ⟨rfl,rfl⟩))
  (fun os started H enc _=>w9v os started H enc)
theorem signalGaps_holds:Rows.SignalGapsSaid:=y4t
end Go.Proofs.Ytolfgnbldofcjaa
end
