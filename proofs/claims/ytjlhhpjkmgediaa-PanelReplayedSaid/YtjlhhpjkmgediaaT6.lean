/-
  Proved: PanelReplayed: for every input the call returns true, and each argument reads afterwards as it read before; there is no condition.
-/
import Derived.Test.YtjlhhpjkmgediaaT5
set_option linter.unusedVariables false
set_option linter.unusedSimpArgs false
set_option linter.unusedSectionVars false
set_option maxRecDepth 100000
set_option maxHeartbeats 0
section
namespace Go.Am
open T11
theorem w4r {x q n:Nat} (hx:x<n):(x+q) % n=if x+q % n<n then x+q % n else x+q % n - n:=by
 have hr:q % n<n:=Nat.mod_lt _ (by omega)
 rw [←Nat.add_mod_mod]
 generalize q % n=r at hr⊢
 split
 ·exact Nat.mod_eq_of_lt (by assumption)
 ·rw [Nat.mod_eq_sub_mod (by omega)]
  exact Nat.mod_eq_of_lt (by omega)
theorem x2r {x y q n:Nat} (hx:x<n) (hy:y<n) (h:(x+q) % n=(y+q) % n):x=y:=by
 have hr:q % n<n:=Nat.mod_lt _ (by omega)
 rw [w4r hx,w4r hy] at h
 split at h<;>split at h<;>omega
def y89 (q n k:Nat):Nat:=(k+(n - q % n)) % n
theorem y88 {q n k:Nat} (hn:0<n):y89 q n k<n:=Nat.mod_lt _ hn
theorem z90 {q n k:Nat} (hk:k<n):(y89 q n k+q) % n=k:=by
 have hr:q % n<n:=Nat.mod_lt _ (by omega)
 unfold y89
 rw [Nat.mod_add_mod]
 have e:k+(n - q % n)+q=k+n*(1+q / n):=by
  have:=Nat.div_add_mod q n
  rw [Nat.mul_add,Nat.mul_one]
  omega
 rw [e,Nat.add_mul_mod_self_left]
 exact Nat.mod_eq_of_lt hk
theorem w24 (n q:Nat) (p:Nat→Bool):cnt n (fun j=>p ((j+q) % n))=cnt n p:=by
 by_cases h0:n=0
 ·subst h0; rfl
 have e1:cnt n p=((List.range n).filter p).length:=y12 n p
 have e2:cnt n (fun j=>p ((j+q) % n))=((List.range n).filter fun j=>p ((j+q) % n)).length:=y12 n _
 have e3:((List.range n).filter fun j=>p ((j+q) % n)).length=(((List.range n).filter fun j=>p ((j+q) % n)).map fun j=>(j+q) % n).length:=(List.length_map ..).symm
 have nd1:((List.range n).filter p).Nodup:=List.nodup_range.sublist List.filter_sublist
 have nd2:(((List.range n).filter fun j=>p ((j+q) % n)).map fun j=>(j+q) % n).Nodup:=by
  rw [List.Nodup,List.pairwise_map]
  have:((List.range n).filter fun j=>p ((j+q) % n)).Nodup:=List.nodup_range.sublist List.filter_sublist
  refine List.Pairwise.imp_of_mem ?_ this
  intro a b ha hb hne e
  rw [List.mem_filter,List.mem_range] at ha hb
  exact hne (x2r ha.1 hb.1 e)
 have s1:=nd1.length_le_of_subset (l₂:=((List.range n).filter fun j=>p ((j+q) % n)).map fun j=>(j+q) % n) fun k hk=>by
  rw [List.mem_filter,List.mem_range] at hk
  rw [List.mem_map]
  refine ⟨y89 q n k,List.mem_filter.2 ⟨List.mem_range.2 (y88 (by omega)),?_⟩,z90 hk.1⟩
  rw [z90 hk.1]; exact hk.2
 have s2:=nd2.length_le_of_subset (l₂:=(List.range n).filter p) fun k hk=>by
  rw [List.mem_map] at hk
  obtain ⟨j,hj,rfl⟩:=hk
  rw [List.mem_filter,List.mem_range] at hj
  exact List.mem_filter.2 ⟨List.mem_range.2 (Nat.mod_lt _ (by omega)),hj.2⟩
 omega
def z7z (l:List Vt) (t:Nat):List Vt:=(List.range l.length).map fun i=>l.getD ((i+t) % l.length) (0,0,0)
theorem y0t (l:List Vt) (t:Nat):(z7z l t).length=l.length:=by simp [z7z]
theorem y0s (l:List Vt) (t:Nat) (v:Vt):v∈z7z l t↔v∈l:=by
 unfold z7z
 rw [List.mem_map]
 constructor
 ·rintro ⟨i,hi,rfl⟩
  have hi:=List.mem_range.1 hi
  have hlt:(i+t) % l.length<l.length:=Nat.mod_lt _ (by omega)
  obtain ⟨v,hv⟩:=z1q hlt
  rw [z2h hv]
  exact List.mem_of_getElem? hv
 ·intro hv
  obtain ⟨k,hk⟩:=List.getElem?_of_mem hv
  have hlt:=(List.getElem?_eq_some_iff.1 hk).1
  refine ⟨y89 t l.length k,List.mem_range.2 (y88 (by omega)),?_⟩
  rw [z90 hlt,z2h hk]
theorem x4y {l l':List Vt} (h:∀ v,v∈l'↔v∈l):z3k l'=z3k l:=by
 funext j a b
 unfold z3k
 rw [decide_eq_decide]
 exact h _
theorem y32 {l l':List Vt} (h:z3k l'=z3k l) (N:Nat) (j:Int):z38 l' N j=z38 l N j:=by unfold z38; rw [h]
theorem x9t {l l':List Vt} (h:z3k l'=z3k l) (N J:Nat) (S:Int):beK l' N J S=beK l N J S:=by
 have hw:∀ a b j,z20 l' N S a b j=z20 l N S a b j:=fun a b j=>by unfold z20; rw [y32 h,h]
 funext i k
 unfold beK
 rw [z4s (p:=z20 l' N S k i) (q:=z20 l N S k i) fun j _=>hw _ _ _,z4s (p:=z20 l' N S i k) (q:=z20 l N S i k) fun j _=>hw _ _ _]
theorem y9r {l l':List Vt} (h:z3k l'=z3k l) (N J:Nat):z3m l' N J=z3m l N J:=by
 unfold z3m
 exact List.map_congr_left fun j _=>by rw [y32 h]
theorem y4y {N J S:Int} {l:List Vt} (h:z3y N J S l=0) {l':List Vt} (hl:l'.length≤80) (hv:∀ v∈l',¬ z6l N J v):z3y N J S l'=0:=by
 unfold z3y at h⊢
 rw [if_neg (by omega)]
 split at h
 ·cases h
 ·split at h
  ·cases h
  ·rename_i h2
   rw [if_neg h2,if_neg]
   rintro ⟨v,hm,hb⟩
   exact hv v hm hb
def xV (l:List Vt) (t w:Nat):List Vt:=z7z l t++(if 0<l.length∧l.length<80 then [l.getD (w % l.length) (0,0,0)] else [])
theorem w3p (l:List Vt) (t w:Nat) (v:Vt):v∈xV l t w↔v∈l:=by
 unfold xV
 rw [List.mem_append,y0s]
 split
 ·rename_i h
  have hlt:w % l.length<l.length:=Nat.mod_lt _ h.1
  obtain ⟨u,hu⟩:=z1q hlt
  rw [z2h hu,List.mem_singleton]
  constructor
  ·rintro (h|rfl)
   ·exact h
   ·exact List.mem_of_getElem? hu
  ·exact .inl
 ·simp
theorem w8z (l:List Vt) (t w:Nat) (h:l.length≤80):(xV l t w).length≤80:=by
 unfold xV
 rw [List.length_append,y0t]
 split
 ·rename_i h2; simp; omega
 ·simp; omega
def yV (l:List Vt) (t q J:Nat):List Vt:=(z7z l t).map fun v=>(((v.1.toNat+q) % J:Nat),v.2)
theorem y7c {l:List Vt} {J:Nat} (hj:∀ v∈l,0≤v.1∧v.1<(J:Int)) (t q:Nat) {j:Nat} (hlt:j<J) (a b:Int):z3k (yV l t q J) (((j+q) % J:Nat):Int) a b=z3k l j a b:=by
 unfold z3k
 rw [decide_eq_decide]
 unfold yV
 rw [List.mem_map]
 constructor
 ·rintro ⟨v,hv,e⟩
  rw [y0s] at hv
  obtain ⟨h0,h1⟩:=hj v hv
  obtain ⟨v1,v2⟩:=v
  have e1:=congrArg Prod.fst e
  have e2:v2=(a,b):=congrArg Prod.snd e
  simp only at e1 h0 h1
  have:=x2r (x:=v1.toNat) (y:=j) (q:=q) (n:=J) (by omega) hlt (by omega)
  have e3:v1=(j:Int):=by omega
  rw [e3,e2] at hv; exact hv
 ·intro hv
  refine ⟨((j:Int),a,b),(y0s l t _).2 hv,?_⟩
  show (((((j:Int).toNat+q) % J:Nat):Int),(a,b))=_
  rw [Int.toNat_natCast]
theorem w4w {l:List Vt} {J:Nat} (hj:∀ v∈l,0≤v.1∧v.1<(J:Int)) (t q N:Nat) {j:Nat} (hlt:j<J):z38 (yV l t q J) N (((j+q) % J:Nat):Int)=z38 l N j:=by
 unfold z38
 refine z9a fun i _=>z4s fun k _=>?_
 rw [y7c hj t q hlt,y7c hj t q hlt]
theorem w4v {l:List Vt} {J:Nat} (hj:∀ v∈l,0≤v.1∧v.1<(J:Int)) (t q N:Nat) (S a b:Int) {j:Nat} (hlt:j<J):z20 (yV l t q J) N S a b ((j+q) % J)=z20 l N S a b j:=by
 unfold z20
 rw [w4w hj t q N hlt,y7c hj t q hlt,y7c hj t q hlt]
theorem w8y {l:List Vt} {J:Nat} (hj:∀ v∈l,0≤v.1∧v.1<(J:Int)) (t q N:Nat) (S:Int):beK (yV l t q J) N J S=beK l N J S:=by
 have key:∀ a b,cnt J (z20 (yV l t q J) N S a b)=cnt J (z20 l N S a b):=fun a b=>by
  rw [←w24 J q (z20 (yV l t q J) N S a b)]
  exact z4s fun j hlt=>w4v hj t q N S a b hlt
 funext i k
 unfold beK
 rw [key,key]
def zV (l:List Vt) (N:Nat) (S:Int):List Vt:=l.filter fun v=>decide (((z38 l N v.1:Nat):Int)≤S)
theorem y7b (l:List Vt) (N:Nat) (S j a b:Int):z3k (zV l N S) j a b=(z3k l j a b&&decide (((z38 l N j:Nat):Int)≤S)):=by
 unfold z3k zV
 rw [Bool.eq_iff_iff,decide_eq_true_eq,List.mem_filter,Bool.and_eq_true,decide_eq_true_eq,decide_eq_true_eq]
theorem w8x (l:List Vt) (N J:Nat) (S:Int) (hS:0≤S):beK (zV l N S) N J S=beK l N J S:=by
 have hw:∀ a b j,z20 (zV l N S) N S a b j=z20 l N S a b j:=fun a b j=>by
  unfold z20
  rw [y7b,y7b]
  by_cases h:((z38 l N (j:Int):Nat):Int)≤S
  ·have e:z38 (zV l N S) N (j:Int)=z38 l N (j:Int):=by
    unfold z38
    refine z9a fun i _=>z4s fun k _=>?_
    rw [y7b,y7b]
    have h':=h
    rw [decide_eq_true h',Bool.and_true,Bool.and_true]
   rw [e,decide_eq_true h,Bool.and_true,Bool.and_true]
  ·rw [decide_eq_false h]; simp
 funext i k
 unfold beK
 rw [z4s (p:=z20 (zV l N S) N S k i) (q:=z20 l N S k i) fun j _=>hw _ _ _,z4s (p:=z20 (zV l N S) N S i k) (q:=z20 l N S i k) fun j _=>hw _ _ _]
end Go.Am
end
section
namespace Go.Am
open T11
theorem x96 (N J S:Int) (l:List Vt) (h:z3y N J S l=0):v3n std (N,(J,(S,(z0g l,()))))=some (z2i (z3m l N.toNat J.toNat),(0,())):=by
 show q15 (N,(J,(S,(z0g l,()))))=_
 unfold q15
 simp only [y4w]
 rw [if_pos h]
theorem y8y (N J S:Int) (l:List Vt) (h:z3y N J S l=0):w3l std (N,(J,(S,(z0g l,()))))=some (z08 fe (dOf (beK l N.toNat J.toNat S) N.toNat),(0,())):=by
 show q17 (N,(J,(S,(z0g l,()))))=_
 unfold q17
 simp only [y4w]
 rw [if_pos h]
theorem x9b (f:Nat→Nat→Bool) (n:Nat) (hn:n≤1000):(dOf f n).length≤1000000∧∀ l∈dOf f n,l.length≤1000000:=by
 refine ⟨by rw [z65]; omega,fun l hl=>?_⟩
 unfold dOf at hl
 obtain ⟨i,_,rfl⟩:=List.mem_map.1 hl
 rw [x1c]
 have:=List.length_filter_le (f i) (List.range n)
 rw [List.length_range] at this
 omega
end Go.Am
end
section
namespace Go.Am
open T11
theorem w3b (l:List Vt) (N J:Nat) (S:Int):u0s (beK l N J S) N:=by
 refine ⟨fun i _=>by unfold beK; simp,fun i k _ _ hne=>?_⟩
 unfold beK
 generalize cnt J (z20 l N S k i)=a
 generalize cnt J (z20 l N S i k)=b
 have h1:¬ k=i:=fun e=>hne e.symm
 rcases Nat.lt_trichotomy a b with h|h|h
 ·have h2:¬ b<a:=by omega
  have h3:¬ a=b:=by omega
  simp [hne,h1,h,h2,h3]
 ·subst h
  by_cases hk:i<k
  ·have h2:¬ k<i:=by omega
   simp [hne,h1,hk,h2]
  ·have h2:k<i:=by omega
   simp [hne,h1,hk,h2]
 ·have h2:¬ a<b:=by omega
  have h3:¬ b=a:=by omega
  simp [hne,h1,h,h2,h3]
set_option maxHeartbeats 2000000 in
theorem x9w {N S:Int} {J:Nat} (hJ:1≤J∧J≤12) (l:List Vt) (hl:l.length≤80) (s:List Int) {T Q:Nat} (hT:T≤255) (hQ:Q≤255) (W:Int) {i:Nat} (hi:i<l.length) {u v:Vt} (hu:l[i]?=some u) (hv:l[(i+T) % l.length]?=some v)
  (hvJ:0≤v.1∧v.1<(J:Int)) (huJ:0≤u.1) {x:Int} (hx:s[u.1.toNat]?=some x) {X Y Z:List (List D)} (hX:X.length=i) (hY:Y.length=i) {m:Nat} (hZ:Z.length=m) (hm:m≤i):
  w4n std (X,(Y,(Z,(N,((J:Int),(S,(z0g l,(N,((J:Int),(S,(N,((J:Int),(S,(N,((J:Int),(S,((T:Int),((Q:Int),(W,((l.length:Int),(z2i s,((i:Int),()))))))))))))))))))))))=
   some (.inl (X++[eVt v],(Y++[eVt (((v.1.toNat+Q) % J:Nat),v.2)],((bif decide (x≤S) then Z++[eVt u] else Z),(N,((J:Int),(S,(z0g l,(N,((J:Int),(S,(N,((J:Int),(S,(N,((J:Int),(S,((T:Int),((Q:Int),(W,((l.length:Int),(z2i s,(((i+1:Nat):Int),()))))))))))))))))))))))):=by
 have hw:=z3h (i:=i) (by omega)
 have hlt:(i:Int)<l.length:=by omega
 have h0:(0:Int)≤i:=by omega
 have hn0:¬ ((l.length:Nat):Int)=0:=by omega
 have hJ0:¬ ((J:Nat):Int)=0:=by omega
 have wT:IntKind.i64.wrap (T:Int)=T:=y0p _ (by omega) (by omega)
 have wQ:IntKind.i64.wrap (Q:Int)=Q:=y0p _ (by omega) (by omega)
 have wiT:IntKind.i64.wrap ((i:Int)+T)=((i+T:Nat):Int):=by rw [y0p _ (by omega) (by omega)]; omega
 have wvQ:IntKind.i64.wrap (v.1+(Q:Int))=((v.1.toNat+Q:Nat):Int):=by rw [y0p _ (by omega) (by omega)]; omega
 have r1:(((i+T:Nat):Int)).tmod ((l.length:Nat):Int)=(((i+T) % l.length:Nat):Int):=(Int.ofNat_tmod _ _).symm
 have r2:(((v.1.toNat+Q:Nat):Int)).tmod ((J:Nat):Int)=(((v.1.toNat+Q) % J:Nat):Int):=(Int.ofNat_tmod _ _).symm
 have hk0:(0:Int)≤(((i+T) % l.length:Nat):Int):=by omega
 have gu:=z9j hu
 have gv:=z9j hv
 have gx:(z2i s)[u.1.toNat]?=some (eI x):=by rw [z2i,List.getElem?_map,hx]; rfl
 have tX:X.take i=X:=List.take_of_length_le (by omega)
 have tY:Y.take i=Y:=List.take_of_length_le (by omega)
 have tZ:Z.take m=Z:=List.take_of_length_le (by omega)
 have t1:∀ (a:List D),List.take 1 [a]=[a]:=fun _=>rfl
 have k1:i+1≤1000000:=by omega
 have k2:m+1≤1000000:=by omega
 have k3:(1:Nat)≤1:=Nat.le_refl _
 have hel:=z04 l
 generalize z0g l=L at gu gv hel⊢
 generalize z2i s=E at gx⊢
 generalize hk:(i+T) % l.length=k at hv r1 hk0 gv
 by_cases c:x≤S
 ·simp only [w4n,z2c,z2d,z0i,y1p,hlt,h0,hn0,hJ0,wT,wQ,wiT,wvQ,r1,r2,hk0,gu,gv,gx,z2k,z0z,z4d,z4c,z4b,z3c,huJ,hX,hY,hZ,tX,tY,tZ,t1,k1,k2,k3,c,ge_iff_le,hw,List.length_append,y1f,eq_self,not_true,not_false_eq_true,decide_true,decide_false,Bool.not_true,Bool.not_false,Int.reduceLT,Int.reduceLE,Int.reduceNeg,Int.reduceGT,cond_true,cond_false,Int.reduceEq,Nat.le_refl,Bool.and_true,List.drop_zero]
  rfl
 ·simp only [w4n,z2c,z2d,z0i,y1p,hlt,h0,hn0,hJ0,wT,wQ,wiT,wvQ,r1,r2,hk0,gu,gv,gx,z2k,z0z,z4d,z4c,z4b,z3c,huJ,hX,hY,hZ,tX,tY,tZ,t1,k1,k2,k3,c,ge_iff_le,hw,List.length_append,y1f,eq_self,not_true,not_false_eq_true,decide_true,decide_false,Bool.not_true,Bool.not_false,Int.reduceLT,Int.reduceLE,Int.reduceNeg,Int.reduceGT,cond_true,cond_false,Int.reduceEq,Nat.le_refl,Bool.and_true,List.drop_zero]
  rfl
def z70 (l:List Vt) (t i:Nat):List Vt:=(List.range i).map fun k=>l.getD ((k+t) % l.length) (0,0,0)
theorem y5x (l:List Vt) (t i:Nat):z70 l t (i+1)=z70 l t i++[l.getD ((i+t) % l.length) (0,0,0)]:=by
 unfold z70
 rw [List.range_succ,List.map_append]; rfl
def yM (q J:Nat) (v:Vt):Vt:=(((v.1.toNat+q) % J:Nat),v.2)
theorem y1b (a b:List Vt):z0g (a++b)=z0g a++z0g b:=by simp [z0g]
theorem y0u (l:List Vt) (t i:Nat):(z70 l t i).length=i:=by simp [z70]
abbrev st9 (N S:Int) (J:Nat) (l:List Vt) (s:List Int) (T Q:Nat) (W:Int) (X Y Z:List (List D)) (i:Nat):=
 (X,(Y,(Z,(N,((J:Int),(S,(z0g l,(N,((J:Int),(S,(N,((J:Int),(S,(N,((J:Int),(S,((T:Int),((Q:Int),(W,((l.length:Int),(z2i s,((i:Int),()))))))))))))))))))))))
abbrev v0r (N S:Int) (J:Nat) (l:List Vt) (s:List Int) (W:Int) (X Y Z:List (List D)):=
 (X,(Y,(Z,(N,((J:Int),(S,(z0g l,(N,((J:Int),(S,(N,((J:Int),(S,(N,((J:Int),(S,(W,((l.length:Int),(z2i s,())))))))))))))))))))
theorem v5v {N S:Int} {J:Nat} (hJ:1≤J∧J≤12) (l:List Vt) (hl:l.length≤80) (hj:∀ v∈l,0≤v.1∧v.1<(J:Int)) {M:Nat} {T Q:Nat} (hT:T≤255) (hQ:Q≤255) (W:Int):
  y0g (w4n std) (st9 N S J l (z3m l M J) T Q W [] [] [] 0)=some (v0r N S J l (z3m l M J) W (z0g (z7z l T)) (z0g (yV l T Q J)) (z0g (zV l M S))):=by
 have hfin:∀ i,i=l.length→(z7z l T=z70 l T i∧yV l T Q J=(z70 l T i).map (yM Q J)∧zV l M S=(l.take i).filter fun v=>decide (((z38 l M v.1:Nat):Int)≤S)):=by
  rintro i rfl
  refine ⟨rfl,rfl,?_⟩
  rw [List.take_length]; rfl
 obtain ⟨f1,f2,f3⟩:=hfin l.length rfl
 rw [f1,f2,f3]
 refine x13 (b:=w4n std) l.length (fun i=>st9 N S J l (z3m l M J) T Q W (z0g (z70 l T i)) (z0g ((z70 l T i).map (yM Q J))) (z0g ((l.take i).filter fun v=>decide (((z38 l M v.1:Nat):Int)≤S))) i) (v0r N S J l (z3m l M J) W _ _ _) (fun i hi=>?_) ?_
 ·obtain ⟨u,hu⟩:=z1q (l:=l) (i:=i) hi
  have hlt:(i+T) % l.length<l.length:=Nat.mod_lt _ (by omega)
  obtain ⟨v,hv⟩:=z1q (l:=l) hlt
  obtain ⟨u0,u1⟩:=hj u (List.mem_of_getElem? hu)
  have hx:=x4x l M (J:=J) (j:=u.1.toNat) (by omega)
  have hfl:((l.take i).filter fun v=>decide (((z38 l M v.1:Nat):Int)≤S)).length≤i:=by
   have h1:=List.length_filter_le (fun v:Vt=>decide (((z38 l M v.1:Nat):Int)≤S)) (l.take i)
   rw [List.length_take] at h1
   omega
  have h:=x9w (N:=N) (S:=S) hJ l hl (z3m l M J) hT hQ W hi hu hv (hj v (List.mem_of_getElem? hv)) u0 hx (X:=z0g (z70 l T i)) (Y:=z0g ((z70 l T i).map (yM Q J))) (Z:=z0g ((l.take i).filter fun v=>decide (((z38 l M v.1:Nat):Int)≤S))) (by rw [z04,y0u]) (by rw [z04,List.length_map,y0u]) (z04 _) hfl
  rw [h]
  have e1:z0g (z70 l T (i+1))=z0g (z70 l T i)++[eVt v]:=by rw [y5x,z2h hv,y1b]; rfl
  have e2:z0g ((z70 l T (i+1)).map (yM Q J))=z0g ((z70 l T i).map (yM Q J))++[eVt (((v.1.toNat+Q) % J:Nat),v.2)]:=by rw [y5x,z2h hv,List.map_append,y1b]; rfl
  have e3:z0g ((l.take (i+1)).filter fun v=>decide (((z38 l M v.1:Nat):Int)≤S))=bif decide (((z38 l M u.1:Nat):Int)≤S) then z0g ((l.take i).filter fun v=>decide (((z38 l M v.1:Nat):Int)≤S))++[eVt u] else z0g ((l.take i).filter fun v=>decide (((z38 l M v.1:Nat):Int)≤S)):=by
   rw [List.take_add_one,hu,Option.toList_some,List.filter_append,y1b]
   cases hd:decide (((z38 l M u.1:Nat):Int)≤S) with
   |true=>rw [List.filter_cons_of_pos (by exact hd)]; rfl
   |false=>rw [List.filter_cons_of_neg (by simp only [hd]; decide)]; simp [z0g]
  have eu:((u.1.toNat:Nat):Int)=u.1:=by omega
  rw [e1,e2,e3,eu]
 ·have hn:¬ ((l.length:Nat):Int)<l.length:=by omega
  have hX:(z0g (z70 l T l.length)).length=l.length:=by rw [z04,y0u]
  have hY:(z0g ((z70 l T l.length).map (yM Q J))).length=l.length:=by rw [z04,List.length_map,y0u]
  generalize z0g (z70 l T l.length)=X at hX⊢
  generalize z0g ((z70 l T l.length).map (yM Q J))=Y at hY⊢
  simp only [w4n,z2c,z2d,hn,eq_self,not_true,not_false_eq_true,decide_true,decide_false,Bool.not_true,Bool.not_false,Int.reduceLT,Int.reduceLE,Int.reduceNeg,Int.reduceGT,cond_true,cond_false,Int.reduceEq,Nat.le_refl,Bool.and_true,List.drop_zero]
theorem u8n {t:Int} (h:(Lit.int IntKind.u8 t).wf=true):∃ T:Nat,t=(T:Int)∧T≤255:=by
 have:=v4l h
 exact ⟨t.toNat,by omega,by omega⟩
set_option maxHeartbeats 2000000 in
theorem v9o (N J S:Int) (l:List Vt) (t:Int) (wt:(Lit.int IntKind.u8 t).wf=true) (q:Int) (wq:(Lit.int IntKind.u8 q).wf=true) (w:Int) (ww:(Lit.int IntKind.u8 w).wf=true):G9 std (N,(J,(S,(z0g l,(t,(q,(w,())))))))=some (true,()):=by
 have h14:G14 std ()=some (true,()):=v3o
 obtain ⟨T,rfl,hT⟩:=u8n wt
 obtain ⟨Q,rfl,hQ⟩:=u8n wq
 obtain ⟨W,rfl,hW⟩:=u8n ww
 unfold G9
 by_cases hm:90<l.length
 ·have hm':((l.length:Nat):Int)>90:=by omega
  simp only [z2c,z2d,z04,hm',h14,eq_self,not_true,not_false_eq_true,decide_true,decide_false,Bool.not_true,Bool.not_false,Int.reduceLT,Int.reduceLE,Int.reduceNeg,Int.reduceGT,cond_true,cond_false,Int.reduceEq,Nat.le_refl,Bool.and_true,List.drop_zero]
 have hm':¬ ((l.length:Nat):Int)>90:=by omega
 have h20:=v3m N J S l
 by_cases h0:z3y N J S l=0
 rotate_left
 ·simp only [z2c,z2d,z04,hm',h14,h20,h0,eq_self,not_true,not_false_eq_true,decide_true,decide_false,Bool.not_true,Bool.not_false,Int.reduceLT,Int.reduceLE,Int.reduceNeg,Int.reduceGT,cond_true,cond_false,Int.reduceEq,Nat.le_refl,Bool.and_true,List.drop_zero]
 obtain ⟨b1,b2,b3,b4,b5,b6,b7,b8,b9,b10,b11⟩:=x9s h0
 obtain ⟨J,rfl⟩:∃ n:Nat,J=(n:Int):=⟨J.toNat,b5.symm⟩
 obtain ⟨M,rfl⟩:∃ n:Nat,N=(n:Int):=⟨N.toNat,b2.symm⟩
 rw [Int.toNat_natCast] at b3 b4 b6 b7 b11
 have h15:=x96 M J S l h0
 have h17:=y8y M J S l h0
 rw [Int.toNat_natCast,Int.toNat_natCast] at h15 h17
 have hloop:y0g (w4n std) _=_:=v5v (N:=(M:Int)) (S:=S) ⟨b6,b7⟩ l b1 b11 (M:=M) hT hQ (W:Int)
 have vx:∀ w',z3y M J S (xV l T w')=0:=fun w'=>y4y h0 (w8z l T w' b1) fun v hv=>b10 v ((w3p l T w' v).1 hv)
 have vy:z3y M J S (yV l T Q J)=0:=by
  refine y4y h0 (by unfold yV; rw [List.length_map,y0t]; exact b1) fun v hv=>?_
  unfold yV at hv
  obtain ⟨u,hu,rfl⟩:=List.mem_map.1 hv
  have:=b10 u ((y0s l T u).1 hu)
  have hlt:(u.1.toNat+Q) % J<J:=Nat.mod_lt _ (by omega)
  unfold z6l at this⊢
  simp only
  omega
 have vz:z3y M J S (zV l M S)=0:=by
  refine y4y h0 ?_ fun v hv=>?_
  ·have:=List.length_filter_le (fun v:Vt=>decide (((z38 l M v.1:Nat):Int)≤S)) l
   unfold zV; omega
  ·unfold zV at hv
   exact b10 v (List.mem_filter.1 hv).1
 have sx:∀ w',z3k (xV l T w')=z3k l:=fun w'=>x4y (w3p l T w')
 have x17:∀ w',w3l std ((M:Int),((J:Int),(S,(z0g (xV l T w'),()))))=some (z08 fe (dOf (beK l M J S) M),(0,())):=fun w'=>by
  have:=y8y M J S _ (vx w')
  rw [Int.toNat_natCast,Int.toNat_natCast,x9t (sx w')] at this; exact this
 have x15:∀ w',v3n std ((M:Int),((J:Int),(S,(z0g (xV l T w'),()))))=some (z2i (z3m l M J),(0,())):=fun w'=>by
  have:=x96 M J S _ (vx w')
  rw [Int.toNat_natCast,Int.toNat_natCast,y9r (sx w')] at this; exact this
 have y17:w3l std ((M:Int),((J:Int),(S,(z0g (yV l T Q J),()))))=some (z08 fe (dOf (beK l M J S) M),(0,())):=by
  have:=y8y M J S _ vy
  rw [Int.toNat_natCast,Int.toNat_natCast,w8y b11] at this; exact this
 have z17:w3l std ((M:Int),((J:Int),(S,(z0g (zV l M S),()))))=some (z08 fe (dOf (beK l M J S) M),(0,())):=by
  have:=y8y M J S _ vz
  rw [Int.toNat_natCast,Int.toNat_natCast,w8x l M J S b8] at this; exact this
 obtain ⟨d1,d2⟩:=x9b (beK l M J S) M (by omega)
 have h22:=v3l (fl:=fe) (fl':=fe) (dOf (beK l M J S) M) (dOf (beK l M J S) M) d1 d2
 have h21:=w4t (z3m l M J) (z3m l M J) (by rw [y54]; omega)
 have h27:=v3k (fl:=fe) (dOf (beK l M J S) M) d2
 rw [w2v b3 b4 (w3b l M J S)] at h27
 rw [decide_eq_true rfl] at h21 h22
 rw [h0] at h20
 have hel:=z04 l
 have hsl:(z2i (z3m l M J)).length=J:=by rw [z9k,y54]
 have lx:(z0g (z7z l T)).length=l.length:=by rw [z04,y0t]
 have ly:(z0g (yV l T Q J)).length=l.length:=by unfold yV; rw [z04,List.length_map,y0t]
 have ty:(z0g (yV l T Q J)).take l.length=z0g (yV l T Q J):=List.take_of_length_le (by omega)
 have tz:(z0g (zV l M S)).take (z0g (zV l M S)).length=z0g (zV l M S):=List.take_length
 have tx:(z0g (z7z l T)).take l.length=z0g (z7z l T):=List.take_of_length_le (by omega)
 have wW:IntKind.i64.wrap (W:Int)=W:=y0p _ (by omega) (by omega)
 have r1:((W:Int)).tmod ((l.length:Nat):Int)=((W % l.length:Nat):Int):=(Int.ofNat_tmod _ _).symm
 have hk0:(0:Int)≤((W % l.length:Nat):Int):=by omega
 have t1:∀ (a:List D),List.take 1 [a]=[a]:=fun _=>rfl
 by_cases c1:0<l.length
 ·have c1':((l.length:Nat):Int)>0:=by omega
  have c1'':¬ ((l.length:Nat):Int)=0:=by omega
  by_cases c2:l.length<80
  ·have c2':((l.length:Nat):Int)<80:=by omega
   have hlt:W % l.length<l.length:=Nat.mod_lt _ c1
   obtain ⟨v,hv⟩:=z1q (l:=l) hlt
   have gv:=z9j hv
   have ex:z0g (xV l T W)=z0g (z7z l T)++[[D.int .i64 v.1,D.int .i64 v.2.1,D.int .i64 v.2.2]]:=by
    unfold xV
    rw [if_pos ⟨c1,c2⟩,z2h hv,y1b]; rfl
   have x17:=x17 W
   have x15:=x15 W
   rw [ex] at x17 x15
   have ta:(z0g (z7z l T)++[[D.int .i64 v.1,D.int .i64 v.2.1,D.int .i64 v.2.2]]).take (l.length+1)=z0g (z7z l T)++[[D.int .i64 v.1,D.int .i64 v.2.1,D.int .i64 v.2.2]]:=List.take_of_length_le (by rw [List.length_append,lx]; simp)
   have k1:l.length+1≤1000000:=by omega
   generalize z0g (z7z l T)=X at*
   generalize z0g (yV l T Q J)=Y at*
   generalize z0g (zV l M S)=Z at*
   generalize hk:W % l.length=k at*
   unfold st9 v0r at hloop
   simp only [Int.natCast_zero] at hloop
   generalize z0g l=L at*
   generalize z2i (z3m l M J)=E at*
   simp only [z2c,z2d,hel,hm',h14,h20,h15,h17,hsl,hloop,lx,ly,tx,ty,tz,wW,y1p,r1,hk0,t1,c1',c1'',c2',gv,z2k,z4d,z4c,z4b,k1,ta,x17,x15,y17,z17,h22,h21,h27,y1f,List.length_append,ge_iff_le,eq_self,not_true,not_false_eq_true,decide_true,decide_false,Bool.not_true,Bool.not_false,Int.reduceLT,Int.reduceLE,Int.reduceNeg,Int.reduceGT,cond_true,cond_false,Int.reduceEq,Nat.le_refl,Bool.and_true,List.drop_zero]
  ·have c2':¬ ((l.length:Nat):Int)<80:=by omega
   have ex:xV l T W=z7z l T:=by
    unfold xV
    rw [if_neg (by omega),List.append_nil]
   have x17:=x17 W
   have x15:=x15 W
   rw [ex] at x17 x15
   generalize z0g (z7z l T)=X at*
   generalize z0g (yV l T Q J)=Y at*
   generalize z0g (zV l M S)=Z at*
   unfold st9 v0r at hloop
   simp only [Int.natCast_zero] at hloop
   generalize z0g l=L at*
   generalize z2i (z3m l M J)=E at*
   simp only [z2c,z2d,hel,hm',h14,h20,h15,h17,hsl,hloop,lx,ly,tx,ty,tz,c1',c1'',c2',x17,x15,y17,z17,h22,h21,h27,y1f,ge_iff_le,eq_self,not_true,not_false_eq_true,decide_true,decide_false,Bool.not_true,Bool.not_false,Int.reduceLT,Int.reduceLE,Int.reduceNeg,Int.reduceGT,cond_true,cond_false,Int.reduceEq,Nat.le_refl,Bool.and_true,List.drop_zero]
 ·have c1':¬ ((l.length:Nat):Int)>0:=by omega
  have ex:xV l T W=z7z l T:=by
   unfold xV
   rw [if_neg (by omega),List.append_nil]
  have x17:=x17 W
  have x15:=x15 W
  rw [ex] at x17 x15
  generalize z0g (z7z l T)=X at*
  generalize z0g (yV l T Q J)=Y at*
  generalize z0g (zV l M S)=Z at*
  unfold st9 v0r at hloop
  simp only [Int.natCast_zero] at hloop
  generalize z0g l=L at*
  generalize z2i (z3m l M J)=E at*
  simp only [z2c,z2d,hel,hm',h14,h20,h15,h17,hsl,hloop,lx,ly,tx,ty,tz,c1',x17,x15,y17,z17,h22,h21,h27,y1f,ge_iff_le,eq_self,not_true,not_false_eq_true,decide_true,decide_false,Bool.not_true,Bool.not_false,Int.reduceLT,Int.reduceLE,Int.reduceNeg,Int.reduceGT,cond_true,cond_false,Int.reduceEq,Nat.le_refl,Bool.and_true,List.drop_zero]
end Go.Am
end
section
namespace Go.Proofs.Ytjlhhpjkmgediaa
open Go.ChangeShapes Go.WideShapes Go.ChangeAt Go.RowKit Go.Am
theorem v4k {e0:Int} {e1:Int} {e2:Int} {e3:List (List D)} {e4:Int} {e5:Int} {e6:Int} (h:G9 std (e0,e1,e2,e3,e4,e5,e6,())=some (true,())):∃ h',z6m Try.prog 9 (toA [.agg [.int .i64 e0, .int .i64 e1, .int .i64 e2, .list false 3 e3], .int .u8 e4, .int .u8 e5, .int .u8 e6]) [] (.d (.bool true)) h':=by
 have:=(ok9.2 (e0,e1,e2,e3,e4,e5,e6,()) (true,()) h).2
 exact ⟨_,this⟩
theorem shp9:w5o Try.prog 6 Try.f9.params.toList=true:=by kernel_rfl
theorem rt9:Try.f9.resultTypes=#[Try.f9.resultTypes.getD 0 0]:=by kernel_rfl
theorem rb9:Try.prog.underlying (Try.f9.resultTypes.getD 0 0)=some .bool:=by kernel_rfl
theorem v2y:Try.f9.params.toList.all (fun t=>decide (t<Try.prog.types.size))=true:=by kernel_rfl
set_option maxRecDepth 100000 in
theorem x9i (H:Type) (enc:TypeId×Value→H) (W:World) (base:Nat) (args:Array Value) (ds gs:List (DataW H)) (before:List MemPlace)
  (hval:∀ (j:Nat) t v,Try.f9.params[j]?=some t→args[j]?=some v→Value.okWide Try.prog W .any base t v)
  (hW:DataW.Whole enc Try.prog Try.f9.params.toList Rows.panelReplayedSpec.vars false W args.toList ds gs before):
  Calls Try.prog 9 args W fun e W'=>∃ v,e= .returned v∧Rows.panelReplayedSpec.post enc Try.prog Try.f9 false true false false W args v W':=by
 have hW':=hW
 obtain ⟨p,q,hA0,hV,rfl,hfz,hnd⟩:=hW
 have hA:DataW.TrodAll enc Try.prog W 0 (fun _=>true) true Try.f9.params.toList args.toList ds p:=hA0
 obtain ⟨xs,h1,h2,h3⟩:=x9y (O:=fun _=>False) (fun _ h=>h) shp9 (x8a hval) hA
 have hd:∃ x0 x1 x2 x3,xs=[x0,x1,x2,x3]∧(∃ ds,x0= .agg ds∧DKs [.int .i64, .int .i64, .int .i64, .list [.int .i64, .int .i64, .int .i64]] ds)∧(DK (.int .u8) x1)∧(DK (.int .u8) x2)∧(DK (.int .u8) x3):=by
  match xs,h1 with
  |[x0,x1,x2,x3],h1=>exact ⟨x0,x1,x2,x3,rfl,h1.1,h1.2.1,h1.2.2.1,h1.2.2.2.1⟩
 obtain ⟨x0,x1,x2,x3,rfl,k0,k1,k2,k3⟩:=hd
 obtain ⟨a0,b0,c0,l0,rfl⟩:=w79 k0
 obtain ⟨n1,rfl,wf1⟩:=w42 k1
 obtain ⟨n2,rfl,wf2⟩:=w42 k2
 obtain ⟨n3,rfl,wf3⟩:=w42 k3
 obtain ⟨h',hr⟩:=v4k (v9o a0 b0 c0 l0 n1 wf1 n2 wf2 n3 wf3)
 exact (y8o hr h2 h3).mono fun e W' ⟨he,hs⟩=>⟨_,he,w1r laid rowed sized v2y rfl rt9 rb9 (fun ds hd=>by
  match ds,hd with
  |[d0,d1,d2,d3],_=>exact ⟨rfl,rfl,rfl⟩) hW' hs⟩
set_option maxRecDepth 100000 in
theorem w6q (os:Os) (started:os.Started) (H:Type) (enc:TypeId×Value→H):
  ReturnsInHanded {} Try.checked os 9 .any (Rows.panelReplayedSpec.pre6 enc Try.prog Try.f9 Rows.panelReplayedRow.domain false) (Rows.panelReplayedSpec.post enc Try.prog Try.f9 false true false false):=by
 refine returnsInHanded_of_change (C:=Try.checked) own started (by kernel_rfl) Try.func9
  (ChangeSpec.witness6 (enc:=enc) (C:=Try.checked) false ⟨#[],#[.agg #[.int .i64 0, .int .i64 0, .int .i64 0, .slice none 0 0], .int .u8 0, .int .u8 0, .int .u8 0],[]⟩ 8 (by kernel_rfl) (by kernel_rfl) (by kernel_rfl) (by kernel_rfl)) ?_
 intro W base args ds gs before hval hW _ _
 exact x9i H enc W base args ds gs before hval hW
set_option maxRecDepth 100000 in
theorem y01:Rows.panelReplayedRow.holds Try.pinned (OpenSpec.ofChange Rows.panelReplayedSpec):=
 OpenClaim.holds_of_wide 9 Try.f9 rfl rfl rfl rfl rfl rfl rfl ⟨rfl,rfl,rfl,rfl,rfl⟩ rfl rfl rfl rfl rfl (by kernel_rfl) Try.func9 (by kernel_rfl)
  (of_decide_eq_true (by kernel_rfl)) (by unfold Func.isWrapper; first|(rw [if_pos (by decide+kernel)]; kernel_rfl)|(rw [if_neg (by decide+kernel)]; exact ⟨rfl,rfl⟩))
  (fun os started H enc _=>w6q os started H enc)
theorem panelReplayed_holds:Rows.PanelReplayedSaid:=y01
end Go.Proofs.Ytjlhhpjkmgediaa
end
