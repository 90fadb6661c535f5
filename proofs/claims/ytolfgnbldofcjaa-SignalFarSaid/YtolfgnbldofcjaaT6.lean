/-
  Proved: SignalFar: for every input the call returns true, and each argument reads afterwards as it read before; there is no condition.
-/
import Derived.Test.YtolfgnbldofcjaaT5
import Derived.Test.YtolfgnbldofcjaaProg
import Derived.KernelRfl
set_option linter.unusedVariables false
set_option linter.unusedSimpArgs false
set_option linter.unusedSectionVars false
set_option maxRecDepth 100000
set_option maxHeartbeats 0
section
namespace Go.Am
open M06
def sdP (B:List Pt) (t:Nat):Pt:=B.getD t (0,0)
def sdW (B:List Pt) (t:Nat):Pt:=sb (B.getD ((t+1) % B.length) (0,0)) (B.getD t (0,0))
def y15 (p:Pt) (B:List Pt) (n:Nat):List Pt:=(List.range n).filterMap fun t=>x4t p (sdP B t) (sdW B t)
def frd (p q:Pt):Pt:=fr (dt (sb q p) (sb q p)).toNat 1
def y21 (B:List Pt) (p:Pt):List Pt:=(B.map fun q=>frd p q)++y15 p B B.length
def y30 (a b:List Pt):List Pt:=a.flatMap (y21 b)++b.flatMap (y21 a)
theorem z2e (x:Int):0≤x*x:=by
 rcases Int.le_total 0 x with h|h
 ·exact Int.mul_nonneg h h
 ·exact Int.mul_nonneg_of_nonpos_of_nonpos h h
theorem x0a (p:Pt) (B:List Pt) (n:Nat):y15 p B (n+1)=y15 p B n++(match x4t p (sdP B n) (sdW B n) with|some x=>[x]|none=>[]):=by
 unfold y15
 rw [List.range_succ,List.filterMap_append]
 congr 1
 rw [List.filterMap_cons]
 cases x4t p (sdP B n) (sdW B n)<;>rfl
theorem x4s (p:Pt) (B:List Pt) (n:Nat):(y15 p B n).length≤n:=by
 unfold y15
 have:=List.length_filterMap_le (fun t=>x4t p (sdP B t) (sdW B t)) (List.range n)
 rw [List.length_range] at this; exact this
theorem w26 {S B:List Pt} (hB:Cyc S B) (kb:∀ x∈B,z0m (-5000) 5000 x) (lb:B.length≤60) {p:Pt} (hp:z0m (-5000) 5000 p) (o:List Pt) (ho:o.length≤100000) (A' L11 L12 L13 L14 L15:List (List D)) (n10 n16 n17:Int):
    ∃ r,z4n (y6c it0 std) (z0d o,(0:Int),(0:Int),(0:Nat),o.length,A',z0d B,p.1,p.2,z0d B,n10,L11,L12,L13,L14,L15,n16,n17,z0d B,(B.length:Int),(0:Int),())=some r∧
      (r= .inl (z0d (o++y15 p B B.length),(0:Int),(0:Int),(0:Nat),(o++y15 p B B.length).length,A',z0d B,p.1,p.2,z0d B,n10,L11,L12,L13,L14,L15,n16,n17,())∨
       r= .inr (z0d (o++y15 p B B.length),(0:Int),(0:Int),(0:Nat),(o++y15 p B B.length).length,A',z0d B,p.1,p.2,z0d B,n10,L11,L12,L13,L14,L15,n16,n17,())):=by
  have hbn:1≤B.length:=by
    match B,hB with
    |q::r,_=>simp
  by_cases h1:B.length=1
  · obtain ⟨q,rfl⟩:∃ q,B=[q]:=by
      match B,h1 with
      |[q],_=>exact ⟨q,rfl⟩
    have gx:=z0w (l:=[q]) (i:=0) rfl
    obtain ⟨d1,d2⟩:=z37 (z16 (kb q (by simp))) (z16 (kb q (by simp)))
    have q1:(sb q q).1=0:=by simp [sb]
    have q2:(sb q q).2=0:=by simp [sb]
    rw [q1] at d1
    rw [q2] at d2
    have w1:IntKind.i64.wrap 1=1:=by decide
    have t1:(1:Int).tmod 1=0:=by decide
    have hu:y15 p [q] ([q]:List Pt).length=[]:=by
      have h0:sdW [q] 0=(0,0):=by simp [sdW,sb]
      have h2:x4t p (sdP [q] 0) (sdW [q] 0)=none:=by rw [h0]; unfold x4t; rw [if_pos (.inl (by simp [dt]))]
      show y15 p [q] (0+1)=[]
      rw [x0a,h2]; rfl
    rw [hu,List.append_nil]
    refine ⟨_,?_, .inl rfl⟩
    rw [z0h]
    have:y6c it0 std (z0d o,(0:Int),(0:Int),(0:Nat),o.length,A',z0d [q],p.1,p.2,z0d [q],n10,L11,L12,L13,L14,L15,n16,n17,z0d [q],(([q]:List Pt).length:Int),(0:Int),())=some (.inr (.inl (z0d o,(0:Int),(0:Int),(0:Nat),o.length,A',z0d [q],p.1,p.2,z0d [q],n10,L11,L12,L13,L14,L15,n16,n17,()))):=by
      have l1:((0+1:Nat):Int)=1:=rfl
      simp only [y6c,z0u,z0v,z0g,z0z,z0y,z1f,z0i,z0c,z0b,z1x,z0k,l1,Int.zero_add,w1,t1,gx,d1,d2,Int.toNat_zero,ge_iff_le,Int.le_refl,show (0:Int)<1 by decide,show ¬ (1:Int)=0 by decide,not_false_eq_true]
    rw [this]
  have h2:2≤B.length:=by omega
  have key:=z3k (b:=y6c it0 std) (fun (j:Nat)=>(z0d (o++y15 p B j),(0:Int),(0:Int),(0:Nat),(o++y15 p B j).length,A',z0d B,p.1,p.2,z0d B,n10,L11,L12,L13,L14,L15,n16,n17,z0d B,(B.length:Int),(j:Int),())) (fun j=>j≤B.length) (fun j=>B.length - j)
    (fun _=> .inr (z0d (o++y15 p B B.length),(0:Int),(0:Int),(0:Nat),(o++y15 p B B.length).length,A',z0d B,p.1,p.2,z0d B,n10,L11,L12,L13,L14,L15,n16,n17,())) (fun j hj=>by
    by_cases hlt:j<B.length
    · left
      obtain ⟨u,hu⟩:=z0l hlt
      obtain ⟨v,hv⟩:=z0l (l:=B) (i:=(j+1) % B.length) (Nat.mod_lt _ (by omega))
      have gu:=z0w hu
      have gv:=z0w hv
      have hne:=x4a hB h2 hu hv
      have hsP:sdP B j=u:=z6k hu
      have hsW:sdW B j=sb v u:=by unfold sdW; rw [z6k hu,z6k hv]
      have bu:=kb u (List.mem_of_getElem? hu)
      have bv:=kb v (List.mem_of_getElem? hv)
      obtain ⟨d1,d2⟩:=z37 (z16 bv) (z16 bu)
      obtain ⟨m1,m2⟩:=x3v (i:=j) (n:=B.length) (by omega) (by omega)
      have c2:(j:Int)<(B.length:Int):=by omega
      have c3:(j:Int)≥0:=by omega
      have c4:¬ (B.length:Int)=0:=by omega
      have c5:(((j+1) % B.length:Nat):Int)≥0:=by omega
      have hz:(if (sb v u).1=0 then if (sb v u).2=0 then true else false else false)=false:=by
        by_cases e1:(sb v u).1=0
        · rw [if_pos e1,if_neg]
          intro e2
          exact hne (Prod.ext e1 e2)
        · rw [if_neg e1]
      have h68:=v6l hp bu (z8a bv bu)
      have hul:=x4s p B j
      have htk:(z0d (o++y15 p B j)).take (o++y15 p B j).length=z0d (o++y15 p B j):=by rw [List.take_of_length_le (by rw [z0c]; omega)]
      have hl0:(o++y15 p B j).length≤100060:=by rw [List.length_append]; omega
      have hs:=x0a p B j
      rw [hsP,hsW] at hs
      refine ⟨j+1,?_,by omega,by omega,rfl⟩
      cases hup:x4t p u (sb v u) with
      |none=>
        rw [hup] at h68 hs
        simp only at h68 hs
        rw [List.append_nil] at hs
        rw [hs]
        simp only [y6c,z0u,z0v,z0g,z0z,z0y,z1f,z0i,z0c,z0b,z1x,z0k,m1,m2,c2,c3,c4,c5,gu,gv,d1,d2,hz,h68,not_false_eq_true]
      |some x=>
        rw [hup] at h68 hs
        simp only at h68 hs
        have hap:z0d (o++y15 p B j)++[eP x]=z0d (o++y15 p B (j+1)):=by rw [hs]; simp [z0d]
        have hal:(o++y15 p B j).length+1=(o++y15 p B (j+1)).length:=by rw [hs]; simp; omega
        have hl1:(o++y15 p B (j+1)).length≤1000000:=by omega
        simp only [y6c,z0u,z0v,z0g,z0z,z0y,z1f,z0i,z0c,z0b,z1x,z0k,m1,m2,c2,c3,c4,c5,gu,gv,d1,d2,hz,h68,htk,hap,hal,hl1,List.drop_zero,List.take_succ_cons,List.take_zero,Nat.le_refl,Nat.zero_add,not_false_eq_true]
    · right
      have:j=B.length:=by omega
      subst this
      have hn:¬ ((B.length:Int)<(B.length:Int)):=by omega
      simp only [y6c,z0u,z0v,z0c,hn]) 0 (Nat.zero_le _)
  have e0:y15 p B 0=[]:=rfl
  rw [e0,List.append_nil] at key
  exact ⟨_,key, .inr rfl⟩
theorem w4q {B:List Pt} (kb:∀ x∈B,z0m (-5000) 5000 x) (lb:B.length≤60) {p:Pt} (hp:z0m (-5000) 5000 p) (o:List Pt) (ho:o.length≤100000) (A' L9 L10 L11 L12 L14:List (List D)) (n13 n15 n16:Int):
  z4n (x4l it0 std) (z0d o,(0:Int),(0:Int),(0:Nat),o.length,A',z0d B,p.1,p.2,L9,L10,L11,L12,n13,L14,n15,n16,z0d B,(B.length:Int),(0:Int),())=
   some (z0d (o++B.map fun q=>frd p q),(0:Int),(0:Int),(0:Nat),(o++B.map fun q=>frd p q).length,A',z0d B,p.1,p.2,L9,L10,L11,L12,n13,L14,n15,n16,()):=by
 have key:=z3k (b:=x4l it0 std) (fun (j:Nat)=>(z0d (o++(B.take j).map fun q=>frd p q),(0:Int),(0:Int),(0:Nat),(o++(B.take j).map fun q=>frd p q).length,A',z0d B,p.1,p.2,L9,L10,L11,L12,n13,L14,n15,n16,z0d B,(B.length:Int),(j:Int),())) (fun j=>j≤B.length) (fun j=>B.length - j)
  (fun _=>(z0d (o++B.map fun q=>frd p q),(0:Int),(0:Int),(0:Nat),(o++B.map fun q=>frd p q).length,A',z0d B,p.1,p.2,L9,L10,L11,L12,n13,L14,n15,n16,())) (fun j hj=>by
  by_cases hlt:j<B.length
  ·left
   obtain ⟨q,hq⟩:=z0l hlt
   have gq:=z0w hq
   have hqb:=kb q (List.mem_of_getElem? hq)
   obtain ⟨d1,d2⟩:=z37 (z16 hqb) (z16 hp)
   have hb:=z8a hqb hp
   obtain ⟨a1,a2,a3,a4,a5⟩:=y1w hb hb
   have hnn:0≤dt (sb q p) (sb q p):=by
    simp only [dt]
    have:=z2e (sb q p).1
    have:=z2e (sb q p).2
    omega
   have e1:(((dt (sb q p) (sb q p)).toNat:Nat):Int)=dt (sb q p) (sb q p):=Int.toNat_of_nonneg hnn
   have h65:g65 it0 std ((((dt (sb q p) (sb q p)).toNat:Nat):Int),((1:Nat):Int),())=some ((frd p q).1,(frd p q).2,()):=w69 (by omega) (by omega) (by omega)
   have e0:((1:Nat):Int)=1:=rfl
   rw [e1,e0] at h65
   have c1:(j:Int)<(B.length:Int):=by omega
   have c2:(j:Int)≥0:=by omega
   have hw:=z04 (i:=j) (by omega)
   have htk:(z0d (o++(B.take j).map fun q=>frd p q)).take (o++(B.take j).map fun q=>frd p q).length=z0d (o++(B.take j).map fun q=>frd p q):=by rw [List.take_of_length_le (by rw [z0c]; omega)]
   have hap:z0d (o++(B.take j).map fun q=>frd p q)++[eP (frd p q)]=z0d (o++(B.take (j+1)).map fun q=>frd p q):=by rw [z0q hq]; simp [z0d]
   have hal:(o++(B.take j).map fun q=>frd p q).length+1=(o++(B.take (j+1)).map fun q=>frd p q).length:=by simp; omega
   have hl1:(o++(B.take (j+1)).map fun q=>frd p q).length≤1000000:=by simp; omega
   refine ⟨j+1,?_,by omega,by omega,rfl⟩
   simp only [x4l,z0u,z0v,z0g,z0z,z0y,z1f,z0i,z0c,z0b,z0k,z08,hw,c1,c2,gq,d1,d2,a1,a2,a3,h65,htk,hap,hal,hl1,List.drop_zero,List.take_succ_cons,List.take_zero,Nat.le_refl,Nat.zero_add]
  ·right
   have:j=B.length:=by omega
   subst this
   have hn:¬ ((B.length:Int)<(B.length:Int)):=by omega
   simp only [x4l,z0u,z0v,z0c,hn,List.take_length]) 0 (Nat.zero_le _)
 rw [List.take_zero,List.map_nil,List.append_nil] at key
 exact key
theorem w3j (B:List Pt) (p:Pt):(y21 B p).length≤2*B.length:=by
 unfold y21
 have:=x4s p B B.length
 rw [List.length_append,List.length_map]; omega
theorem y1e {B:List Pt} (lb:B.length≤60):∀ (A:List Pt),(A.flatMap (y21 B)).length≤120*A.length
 |[]=>by simp
 |p::A=>by
  have:=y1e lb A
  have:=w3j B p
  rw [List.flatMap_cons,List.length_append,List.length_cons]; omega
theorem x5y {S A B:List Pt} (hB:Cyc S B) (ka:∀ x∈A,z0m (-5000) 5000 x) (kb:∀ x∈B,z0m (-5000) 5000 x) (la:A.length≤60) (lb:B.length≤60) (o:List Pt) (ho:o.length≤20000) (L7 L8 L9 L10:List (List D)) (n11:Int):
  z4n (x2n it0 std) (z0d o,(0:Int),(0:Int),(0:Nat),o.length,z0d A,z0d B,L7,L8,L9,L10,n11,z0d A,(A.length:Int),(0:Int),())=
   some (z0d (o++A.flatMap (y21 B)),(0:Int),(0:Int),(0:Nat),(o++A.flatMap (y21 B)).length,L7,L8,L9,L10,n11,()):=by
 have key:=z3k (b:=x2n it0 std) (fun (j:Nat)=>(z0d (o++(A.take j).flatMap (y21 B)),(0:Int),(0:Int),(0:Nat),(o++(A.take j).flatMap (y21 B)).length,z0d A,z0d B,L7,L8,L9,L10,n11,z0d A,(A.length:Int),(j:Int),())) (fun j=>j≤A.length) (fun j=>A.length - j)
  (fun _=>(z0d (o++A.flatMap (y21 B)),(0:Int),(0:Int),(0:Nat),(o++A.flatMap (y21 B)).length,L7,L8,L9,L10,n11,())) (fun j hj=>by
  by_cases hlt:j<A.length
  ·left
   obtain ⟨p,hp⟩:=z0l hlt
   have gp:=z0w hp
   have hpb:=ka p (List.mem_of_getElem? hp)
   have hrl:=y1e lb (A.take j)
   have htl:(A.take j).length≤60:=by rw [List.length_take]; omega
   have ho1:(o++(A.take j).flatMap (y21 B)).length≤100000:=by rw [List.length_append]; omega
   have hfl:=w4q kb lb hpb _ ho1 (z0d A) L7 L8 L9 L10 (z0d A) n11 (A.length:Int) (j:Int)
   have ho2:(o++(A.take j).flatMap (y21 B)++B.map fun q=>frd p q).length≤100000:=by simp only [List.length_append,List.length_map] at ho1⊢; omega
   obtain ⟨r,hr,hr2⟩:=w26 hB kb lb hpb _ ho2 (z0d A) (z0d A) L7 L8 L9 L10 (A.length:Int) n11 (j:Int)
   have hcat:o++(A.take j).flatMap (y21 B)++(B.map fun q=>frd p q)++y15 p B B.length=o++(A.take (j+1)).flatMap (y21 B):=by
    rw [z0q hp,List.flatMap_append]; simp [y21]
   rw [hcat] at hr2
   have c2:(j:Int)<(A.length:Int):=by omega
   have c3:(j:Int)≥0:=by omega
   have hw:=z04 (i:=j) (by omega)
   refine ⟨j+1,?_,by omega,by omega,rfl⟩
   rcases hr2 with rfl|rfl
   ·simp only [x2n,it0_eq,z0u,z0v,z0g,z0z,z0y,z1f,z0i,z0c,z0b,hw,c2,c3,gp,hfl,hr]
   ·simp only [x2n,it0_eq,z0u,z0v,z0g,z0z,z0y,z1f,z0i,z0c,z0b,hw,c2,c3,gp,hfl,hr]
  ·right
   have:j=A.length:=by omega
   subst this
   have hn:¬ ((A.length:Int)<(A.length:Int)):=by omega
   simp only [x2n,z0u,z0v,z0c,hn,List.take_length]) 0 (Nat.zero_le _)
 rw [List.take_zero,List.flatMap_nil,List.append_nil] at key
 exact key
theorem w4k {S T a b:List Pt} (ha:Cyc T a) (hb:Cyc S b) (ka:∀ x∈a,z0m (-5000) 5000 x) (kb:∀ x∈b,z0m (-5000) 5000 x) (la:a.length≤60) (lb:b.length≤60):
  z4n (y6d it0 std) ([],(0:Int),(0:Int),(0:Nat),(0:Nat),z0d a,z0d b,z0d b,z0d a,(0:Int),())=some (z0d (y30 a b),(0:Int),(0:Int),(0:Nat),(y30 a b).length,()):=by
 have w1:IntKind.i64.wrap (0+1)=1:=by decide
 have w2:IntKind.i64.wrap (1+1)=2:=by decide
 have h1:=x5y hb ka kb la lb [] (by simp) (z0d a) (z0d b) (z0d b) (z0d a) 0
 have hl:=y1e lb a
 have h2:=x5y ha kb ka lb la (a.flatMap (y21 b)) (by omega) (z0d a) (z0d b) (z0d b) (z0d a) 1
 rw [List.nil_append] at h1
 have e0:z0d ([]:List Pt)=[]:=rfl
 have e1:([]:List Pt).length=0:=rfl
 rw [e0,e1] at h1
 have t0:y6d it0 std ([],(0:Int),(0:Int),(0:Nat),(0:Nat),z0d a,z0d b,z0d b,z0d a,(0:Int),())=some (.inl (z0d (a.flatMap (y21 b)),(0:Int),(0:Int),(0:Nat),(a.flatMap (y21 b)).length,z0d a,z0d b,z0d b,z0d a,(1:Int),())):=by
  simp only [y6d,it0_eq,z0u,z0v,z0c,h1,z0b,w1,show (0:Int)<2 by decide,ge_iff_le,Int.le_refl,show (0:Int)<((2:Nat):Int) by decide]
 have t1:y6d it0 std (z0d (a.flatMap (y21 b)),(0:Int),(0:Int),(0:Nat),(a.flatMap (y21 b)).length,z0d a,z0d b,z0d b,z0d a,(1:Int),())=some (.inl (z0d (y30 a b),(0:Int),(0:Int),(0:Nat),(y30 a b).length,z0d a,z0d b,z0d b,z0d a,(2:Int),())):=by
  simp only [y6d,it0_eq,z0u,z0v,z0c,h2,z0b,w2,show (1:Int)<2 by decide,show ¬ (1:Int)=0 by decide,ge_iff_le,show (0:Int)≤1 by decide,show (1:Int)<((2:Nat):Int) by decide,y30]
 have t2:y6d it0 std (z0d (y30 a b),(0:Int),(0:Int),(0:Nat),(y30 a b).length,z0d a,z0d b,z0d b,z0d a,(2:Int),())=some (.inr (z0d (y30 a b),(0:Int),(0:Int),(0:Nat),(y30 a b).length,())):=by
  simp only [y6d,z0u,z0v,show ¬ (2:Int)<2 by decide]
 rw [z0h,t0]
 simp only
 rw [z0h,t1]
 simp only
 rw [z0h,t2]
theorem w9l {p q:Pt} (hp:z0m (-5000) 5000 p) (hq:z0m (-5000) 5000 q):Frc (frd p q):=by
 have hb:=z8a hq hp
 obtain ⟨_,_,_,a4,a5⟩:=y1w hb hb
 exact ⟨_,1,by omega,by omega,by omega,rfl⟩
theorem w27 {p f w x:Pt} (hp:z0m (-5000) 5000 p) (hf:z0m (-5000) 5000 f) (hw:z0m (-10000) 10000 w) (h:x4t p f w=some x):Frc x:=by
 have hb:=z8a hp hf
 obtain ⟨_,_,_,b4,b5⟩:=y1w hw hw
 obtain ⟨_,_,_,c4,c5⟩:=y5n hw hb
 obtain ⟨_,s2,s3⟩:=x3j c4 c5
 unfold x4t at h
 split at h
 ·cases h
 ·rename_i hn
  cases h
  exact ⟨_,_,by omega,by omega,by omega,rfl⟩
theorem w6b {S B:List Pt} (hB:Cyc S B) {t:Nat} (ht:t<B.length):sdP B t∈B∧∃ v∈B,sdW B t=sb v (sdP B t):=by
 obtain ⟨u,hu⟩:=z0l ht
 obtain ⟨v,hv⟩:=z0l (l:=B) (i:=(t+1) % B.length) (Nat.mod_lt _ (by omega))
 have h1:sdP B t=u:=z6k hu
 refine ⟨by rw [h1]; exact List.mem_of_getElem? hu,v,List.mem_of_getElem? hv,?_⟩
 unfold sdW; rw [z6k hu,z6k hv,h1]
theorem z9v {B:List Pt} {p x:Pt}:x∈y21 B p↔(∃ q∈B,x=frd p q)∨∃ t,t<B.length∧x4t p (sdP B t) (sdW B t)=some x:=by
 unfold y21 y15
 simp only [List.mem_append,List.mem_map,List.mem_filterMap,List.mem_range]
 constructor
 ·rintro (⟨q,h1,rfl⟩|h)
  ·exact .inl ⟨q,h1,rfl⟩
  ·exact .inr h
 ·rintro (⟨q,h1,rfl⟩|h)
  ·exact .inl ⟨q,h1,rfl⟩
  ·exact .inr h
theorem x43 {S B:List Pt} (hB:Cyc S B) (kb:∀ x∈B,z0m (-5000) 5000 x) {p:Pt} (hp:z0m (-5000) 5000 p):∀ x∈y21 B p,Frc x:=by
 intro x hx
 rcases z9v.1 hx with ⟨q,hq,rfl⟩|⟨t,ht,hu⟩
 ·exact w9l hp (kb q hq)
 ·obtain ⟨h1,v,h2,h3⟩:=w6b hB ht
  rw [h3] at hu
  exact w27 hp (kb _ h1) (z8a (kb v h2) (kb _ h1)) hu
theorem y1q {S T a b:List Pt} (ha:Cyc T a) (hb:Cyc S b) (ka:∀ x∈a,z0m (-5000) 5000 x) (kb:∀ x∈b,z0m (-5000) 5000 x):∀ x∈y30 a b,Frc x:=by
 intro x hx
 unfold y30 at hx
 rcases List.mem_append.1 hx with hx|hx
 ·obtain ⟨p,hp,h⟩:=List.mem_flatMap.1 hx
  exact x43 hb kb (ka p hp) x h
 ·obtain ⟨p,hp,h⟩:=List.mem_flatMap.1 hx
  exact x43 ha ka (kb p hp) x h
theorem w4l {a b:List Pt} (la:a.length≤60) (lb:b.length≤60):(y30 a b).length≤14400:=by
 have h1:=y1e lb a
 have h2:=y1e la b
 unfold y30
 rw [List.length_append]; omega
theorem w87 {a b:List Pt} (ha:a≠[]) (hb:b≠[]):y30 a b≠[]:=by
 match a,b,ha,hb with
 |p::a,q::b,_,_=>
  intro h
  have:frd p q∈y30 (p::a) (q::b):=List.mem_append.2 (.inl (List.mem_flatMap.2 ⟨p,by simp,z9v.2 (.inl ⟨q,by simp,rfl⟩)⟩))
  rw [h] at this; simp at this
theorem x20 {l:List Pt} {hs:List (List Pt)} (hf:z49 l hs) {m:List Pt} {ks:List (List Pt)} (hk:z49 m ks) (hc:z35 l hs m ks=true):G25 std (z0d l,z1s hs,z0d m,z1s ks,())=some (0,1,0,()):=by
 unfold G25
 have h62:g62 it0 std (z0d l,z1s hs,z0d m,z1s ks,())=_:=w2n hf hk
 have h63:=y9y hf hk
 rw [z91 hf hk,hc] at h63
 simp only [g25,z0u,z0v,h62,h63,not_true]
theorem w7h {l:List Pt} {hs:List (List Pt)} (hf:z49 l hs) {m:List Pt} {ks:List (List Pt)} (hk:z49 m ks) (hc:z35 l hs m ks=false):
  ∃ v,w2k (y30 (z1g (z1i l hs)) (z1g (z1i m ks))) v∧G25 std (z0d l,z1s hs,z0d m,z1s ks,())=some (v.1,v.2,0,()):=by
 have h62:g62 it0 std (z0d l,z1s hs,z0d m,z1s ks,())=_:=w2n hf hk
 have h63:=y9y hf hk
 rw [z91 hf hk,hc] at h63
 have hgb:=w4k hf.cyc hk.cyc hf.cbox hk.cbox (z5y hf) (z5y hk)
 have hlen:=w4l (z5y hf) (z5y hk)
 obtain ⟨v,h1,h2⟩:=v6k (w87 (z4g hf.allNe) (z4g hk.allNe)) (by omega) (y1q hf.cyc hk.cyc hf.cbox hk.cbox)
 have h69:g69 it0 std (z0d (y30 (z1g (z1i l hs)) (z1g (z1i m ks))),0,(y30 (z1g (z1i l hs)) (z1g (z1i m ks))).length,())=_:=h2
 refine ⟨v,h1,?_⟩
 unfold G25
 simp only [g25,it0_eq,z0u,z0v,h62,h63,hgb,h69,not_true,Nat.le_refl,Nat.add_zero]
end Go.Am
end
section
namespace Go.Am
open M06
def frA (a:Pt):Pt:=fr (far a (0,0)).toNat 1
def upO (a b:Pt):Option Pt:=if dt a (sb b a)<0∧dt b (sb b a)>0 then some (fr (crs a b*crs a b).toNat (far a b).toNat) else none
def nxP (c:List Pt) (i:Nat):Pt:=c.getD ((i+1) % c.length) (0,0)
def v02 (c:List Pt) (i:Nat):List Pt:=frA (sdP c i)::(match upO (sdP c i) (nxP c i) with|some x=>[x]|none=>[])
def w75 (c:List Pt) (n:Nat):List Pt:=(List.range n).flatMap (v02 c)
theorem y3v {c:List Pt} {n:Nat} {x:Pt}:x∈w75 c n↔∃ i,i<n∧x∈v02 c i:=by
 simp [w75,List.mem_flatMap]
theorem w07 {a b:Pt} (ha:z0m (-10000) 10000 a) (hb:z0m (-10000) 10000 b):0≤far a b∧far a b≤800000000:=by
 obtain ⟨e1,e2,e3,e4⟩:=ha
 obtain ⟨f1,f2,f3,f4⟩:=hb
 have m1:=z4j (a:=a.1 - b.1) (b:=a.1 - b.1) (A:=20000) (B:=20000) (by omega) (by omega) (by omega) (by omega) (by omega)
 have m2:=z4j (a:=a.2 - b.2) (b:=a.2 - b.2) (A:=20000) (B:=20000) (by omega) (by omega) (by omega) (by omega) (by omega)
 have h1:=z2e (a.1 - b.1)
 have h2:=z2e (a.2 - b.2)
 simp only [far,dt,sb]
 omega
theorem w9m {a:Pt} (ha:z0m (-10000) 10000 a):Frc (frA a):=by
 have:=w07 ha (b:=(0,0)) (by simp [z0m])
 exact ⟨_,1,by omega,by omega,by omega,rfl⟩
theorem w7m {a b x:Pt} (ha:z0m (-10000) 10000 a) (hb:z0m (-10000) 10000 b) (h:upO a b=some x):Frc x:=by
 have hf:=w07 ha hb
 obtain ⟨_,_,_,c4,c5⟩:=y5n ha hb
 obtain ⟨_,s2,s3⟩:=x3j c4 c5
 unfold upO at h
 split at h
 ·rename_i hn
  cases h
  have hpos:0<far a b:=by
   rcases Int.lt_or_le 0 (far a b) with h|h
   ·exact h
   ·exfalso
    have h0:far a b=0:=by omega
    have e:far a b=dt b (sb b a) - dt a (sb b a):=by simp only [far,dt,sb]; grind
    omega
  exact ⟨_,_,by omega,by omega,by omega,rfl⟩
 ·cases h
theorem w2r {x y:Pt} (hx:Frc x) (hy:Frc y):g35 it0 std (x.1,x.2,y.1,y.2,())=some (decide (x.1*y.2<y.1*x.2),()):=by
 obtain ⟨a,b,h1,h2,h3,rfl⟩:=hx.nat
 obtain ⟨c,d,k1,k2,k3,rfl⟩:=hy.nat
 have h:=v6o h1 k1 (show a<9223372036854775808 by omega) (by omega) (show c<9223372036854775808 by omega) (by omega)
 have e:(a*d<c*b)↔((a:Int)*(d:Int)<(c:Int)*(b:Int)):=by rw [←Int.natCast_mul, ←Int.natCast_mul]; exact Int.ofNat_lt.symm
 have e2:decide (a*d<c*b)=decide ((a:Int)*(d:Int)<(c:Int)*(b:Int)):=by rw [decide_eq_decide]; exact e
 rw [e2] at h
 exact h
theorem v0w {n d:Int} (hn:0≤n) (hn':n<9223372036854775808) (hd:0<d) (hd':d<9223372036854775808):g34 it0 std (n,d,())=some ((fr n.toNat d.toNat).1,(fr n.toNat d.toNat).2,()):=by
 have h:=v6p (n:=n.toNat) (d:=d.toNat) (by omega) (by omega) (by omega)
 rw [Int.toNat_of_nonneg hn,Int.toNat_of_nonneg (by omega)] at h
 exact h
end Go.Am
end
section
namespace Go.Am
open M06
theorem x51 {n d:Nat} {A B:Int} (hd:0<d):(fr n d).1*A≤B*(fr n d).2↔(n:Int)*A≤B*(d:Int):=by
 obtain ⟨a1,a2⟩:=x50 n d
 have hg:=Nat.gcd_pos_of_pos_right n hd
 have e1:(n:Int)*A=(fr n d).1*A*(Nat.gcd n d:Int):=by rw [←a1]; grind
 have e2:B*(d:Int)=B*(fr n d).2*(Nat.gcd n d:Int):=by rw [←a2]; grind
 rw [e1,e2]
 exact ⟨fun h=>Int.mul_le_mul_of_nonneg_right h (by omega),fun h=>Int.le_of_mul_le_mul_right h (by omega)⟩
theorem w0r {n d:Nat} {A B:Int} (hd:0<d):(fr n d).1*A=B*(fr n d).2↔(n:Int)*A=B*(d:Int):=by
 obtain ⟨a1,a2⟩:=x50 n d
 have hg:=Nat.gcd_pos_of_pos_right n hd
 have e1:(n:Int)*A=(fr n d).1*A*(Nat.gcd n d:Int):=by rw [←a1]; grind
 have e2:B*(d:Int)=B*(fr n d).2*(Nat.gcd n d:Int):=by rw [←a2]; grind
 rw [e1,e2]
 exact ⟨fun h=>by rw [h],fun h=>Int.eq_of_mul_eq_mul_right (by omega) h⟩
theorem w3d {a b:Int} (h:(0≤a∧a≤b)∨(b≤a∧a≤0)):a*a≤b*b:=by
 rcases h with ⟨h1,h2⟩|⟨h1,h2⟩
 ·exact Int.mul_le_mul h2 h2 h1 (by omega)
 ·have:=Int.mul_le_mul (a:= -a) (b:= -a) (c:= -b) (d:= -b) (by omega) (by omega) (by omega) (by omega)
  rw [Int.neg_mul_neg,Int.neg_mul_neg] at this; exact this
theorem y1t (a:Pt):far a (0,0)=dt a a:=by simp [far,sb]
theorem z9d (a b:Pt):far a b=dt (sb b a) (sb b a):=by simp only [far,dt,sb]; grind
theorem w70 {s1 s2 W:Pt} {q:Int} (hq:0<q) (hd:sb s2 s1≠(0,0)) (h0:crs (sb s2 s1) (sb W (ml s1 q))=0) (h1:0≤dt (sb s2 s1) (sb W (ml s1 q))) (h2:0≤dt (sb s2 s1) (sb (ml s2 q) W)):
  ∃ y,(y=frA s1∨y=frA s2∨upO s1 s2=some y)∧y.1*(q*q)≤dt W W*y.2:=by
 have hdd:=z0x hd
 have hlag:=lag W (sb s2 s1)
 have ends:∀ s:Pt,crs W (sb s2 s1)=q*crs s (sb s2 s1)→(q*dt s (sb s2 s1))*(q*dt s (sb s2 s1))≤dt W (sb s2 s1)*dt W (sb s2 s1)→(frA s).1*(q*q)≤dt W W*(frA s).2:=by
  intro s e1 e2
  unfold frA
  have hn:0≤far s (0,0):=by rw [y1t]; exact z12 s
  rw [x51 (by omega),Int.toNat_of_nonneg hn,y1t]
  have hl2:=lag s (sb s2 s1)
  rw [e1] at hlag
  have:dt s s*(q*q)*dt (sb s2 s1) (sb s2 s1)≤dt W W*dt (sb s2 s1) (sb s2 s1):=by
   rw [hlag]
   have e3:dt s s*(q*q)*dt (sb s2 s1) (sb s2 s1)=(q*q)*(dt s s*dt (sb s2 s1) (sb s2 s1)):=by grind
   rw [e3,hl2]
   have e4:(q*q)*(dt s (sb s2 s1)*dt s (sb s2 s1)+crs s (sb s2 s1)*crs s (sb s2 s1))=(q*dt s (sb s2 s1))*(q*dt s (sb s2 s1))+(q*crs s (sb s2 s1))*(q*crs s (sb s2 s1)):=by grind
   rw [e4]
   omega
  have:=Int.le_of_mul_le_mul_right this hdd
  simpa using this
 have x1:crs W (sb s2 s1)=q*crs s1 (sb s2 s1):=by simp only [crs,sb,ml] at h0⊢; grind
 have x2:crs W (sb s2 s1)=q*crs s2 (sb s2 s1):=by simp only [crs,sb,ml] at h0⊢; grind
 have y1:q*dt s1 (sb s2 s1)≤dt W (sb s2 s1):=by
  have e:dt (sb s2 s1) (sb W (ml s1 q))=dt W (sb s2 s1) - q*dt s1 (sb s2 s1):=by simp only [dt,sb,ml]; grind
  omega
 have y2:dt W (sb s2 s1)≤q*dt s2 (sb s2 s1):=by
  have e:dt (sb s2 s1) (sb (ml s2 q) W)=q*dt s2 (sb s2 s1) - dt W (sb s2 s1):=by simp only [dt,sb,ml]; grind
  omega
 by_cases c1:dt s1 (sb s2 s1)<0
 ·by_cases c2:dt s2 (sb s2 s1)>0
  ·have hu:upO s1 s2=some (fr (crs s1 s2*crs s1 s2).toNat (far s1 s2).toNat):=if_pos ⟨c1,c2⟩
   refine ⟨_, .inr (.inr hu),?_⟩
   have hn:=z2e (crs s1 s2)
   have hf:=z9d s1 s2
   rw [x51 (by omega),Int.toNat_of_nonneg hn,Int.toNat_of_nonneg (by omega),hf,hlag,x1]
   have e:crs s1 (sb s2 s1)=crs s1 s2:=by simp only [crs,sb]; grind
   rw [e]
   have:=z2e (dt W (sb s2 s1))
   have e2:crs s1 s2*crs s1 s2*(q*q)=q*crs s1 s2*(q*crs s1 s2):=by grind
   omega
  ·refine ⟨frA s2, .inr (.inl rfl),ends s2 x2 (w3d (.inr ⟨y2,?_⟩))⟩
   have:=Int.mul_nonneg (show 0≤q by omega) (show 0≤ - dt s2 (sb s2 s1) by omega)
   have e:q* - dt s2 (sb s2 s1)= - (q*dt s2 (sb s2 s1)):=by grind
   omega
 ·exact ⟨frA s1, .inl rfl,ends s1 x1 (w3d (.inl ⟨Int.mul_nonneg (by omega) (by omega),y1⟩))⟩
theorem y8p {c:List Pt} {s:Pt×Pt} (hs:s∈y4i c) {y:Pt} (hy:y=frA s.1∨upO s.1 s.2=some y):y∈w75 c c.length:=by
 obtain ⟨i,hi,rfl⟩:=List.mem_map.1 hs
 have hi:=List.mem_range.1 hi
 refine y3v.2 ⟨i,hi,?_⟩
 unfold v02
 rcases hy with rfl|hy
 ·exact List.mem_cons_self ..
 ·have:upO (sdP c i) (nxP c i)=some y:=hy
  rw [this]; simp
theorem z4e {c:List Pt} {u:Pt} (hu:u∈c):frA u∈w75 c c.length:=by
 obtain ⟨i,hi⟩:=List.getElem?_of_mem hu
 have hl:=(List.getElem?_eq_some_iff.1 hi).1
 refine y3v.2 ⟨i,hl,?_⟩
 unfold v02
 have:sdP c i=u:=z6k hi
 rw [this]; exact List.mem_cons_self ..
theorem w74 {c:List Pt} (hc:Cyc c c) (h0:¬ InH c (0,0) 1) {Z:Pt} {k:Int} (hk:0<k) (hZ:InH c Z k):∃ y∈w75 c c.length,y.1*(k*k)≤dt Z Z*y.2:=by
 have corner:∀ (u:Pt) (q:Int),0<q→(frA u).1*(q*q)=dt (ml u q) (ml u q)*(frA u).2:=by
  intro u q hq
  unfold frA
  have hn:0≤far u (0,0):=by rw [y1t]; exact z12 u
  rw [w0r (by omega),Int.toNat_of_nonneg hn,y1t]
  simp only [dt,ml]; grind
 by_cases h1:c.length≤1
 ·obtain ⟨u,rfl,_,_⟩:=y2r hc h1
  have hZu:Z=ml u k:=by
   have hh:∀ d:Pt,0≤crs d (sb Z (ml u k)):=fun d=>by
    obtain ⟨x,hx,h⟩:=hZ d
    simp only [List.mem_singleton] at hx; subst hx; exact h
   have a1:=hh (1,0)
   have a2:=hh (-1,0)
   have a3:=hh (0,1)
   have a4:=hh (0, -1)
   simp only [crs,sb,ml] at a1 a2 a3 a4
   exact Prod.ext (by simp only [ml]; omega) (by simp only [ml]; omega)
  refine ⟨frA u,z4e (by simp),?_⟩
  have:=corner u k hk
  rw [hZu]; omega
 have h2:2≤c.length:=by omega
 obtain ⟨s,α,β,hs,hα,hβ,hW,hcase⟩:=rim hc h2 hk hZ h0
 have hWe:ad (ml (0,0) (α*k)) (ml Z β)=ml Z β:=by simp [ad,ml]
 rw [hWe] at hW hcase
 have hq:0<(α+β)*k:=Int.mul_pos (by omega) hk
 obtain ⟨m1,m2⟩:=(y1k hc h2).1 hs
 have back:∀ y:Pt,0<y.2→y.1*(((α+β)*k)*((α+β)*k))≤dt (ml Z β) (ml Z β)*y.2→0≤y.1→y.1*(k*k)≤dt Z Z*y.2:=by
  intro y hy h hy0
  have e1:dt (ml Z β) (ml Z β)*y.2=(β*β)*(dt Z Z*y.2):=by simp only [dt,ml]; grind
  have e2:y.1*(((α+β)*k)*((α+β)*k))=((α+β)*(α+β))*(y.1*(k*k)):=by grind
  rw [e1,e2] at h
  have hyk:0≤y.1*(k*k):=Int.mul_nonneg hy0 (Int.mul_nonneg (by omega) (by omega))
  have hsq:β*β≤(α+β)*(α+β):=w3d (.inl ⟨by omega,by omega⟩)
  have h3:=Int.mul_le_mul_of_nonneg_right hsq hyk
  exact Int.le_of_mul_le_mul_left (Int.le_trans h3 h) (Int.mul_pos hβ hβ)
 have pos:∀ u:Pt,0<(frA u).2∧0≤(frA u).1:=fun u=>by
  have:=y5e (n:=(far u (0,0)).toNat) (d:=1) (by omega)
  unfold frA; omega
 rcases hcase with ⟨hl,_⟩|he
 ·have hd:sb s.2 s.1≠(0,0):=fun e=>m2.2.1 (z1a.1 e).symm
  have hface:y17 c (sb s.2 s.1) s.1 s.2:=by
   refine ⟨m1,m2.1,?_,fun x hx=>(m2.2.2 x hx).1,fun x hx hx0=>?_⟩
   ·simp only [crs,sb]; grind
   ·have h3:=(m2.2.2 x hx).2 hx0
    refine ⟨h3.1,?_⟩
    have hxs:crs (sb s.2 s.1) (sb x s.1)=0:=hx0
    have hfar:=h3.2
    have e1:far s.1 x=dt (sb x s.1) (sb x s.1):=z9d _ _
    have e2:far s.1 s.2=dt (sb s.2 s.1) (sb s.2 s.1):=z9d _ _
    rw [e1,e2] at hfar
    have hl1:=lag (sb s.2 s.1) (sb x s.1)
    rw [hxs] at hl1
    have e3:dt (sb s.2 s.1) (sb s.2 x)=dt (sb s.2 s.1) (sb s.2 s.1) - dt (sb s.2 s.1) (sb x s.1):=by simp only [dt,sb]; grind
    rw [e3]
    have hp:=z0x hd
    generalize dt (sb s.2 s.1) (sb s.2 s.1)=D at*
    generalize dt (sb s.2 s.1) (sb x s.1)=E at*
    generalize dt (sb x s.1) (sb x s.1)=F at*
    have h5:=Int.mul_le_mul_of_nonneg_left hfar (Int.le_of_lt hp)
    rcases Int.lt_or_le D E with h|h
    ·have:=Int.mul_lt_mul (a:=D) (b:=D) (c:=E) (d:=E) h (by omega) hp (by omega)
     simp at hl1; omega
    ·omega
  obtain ⟨g1,g2⟩:=w4g hc (Int.le_of_lt hq) hd hface hW hl
  obtain ⟨y,hy,hle⟩:=w70 hq hd hl g1 g2
  rcases hy with rfl|rfl|hy
  ·exact ⟨_,z4e m1,back _ (pos _).1 hle (pos _).2⟩
  ·exact ⟨_,z4e m2.1,back _ (pos _).1 hle (pos _).2⟩
  ·refine ⟨_,y8p hs (.inr hy),back _ ?_ hle ?_⟩
   ·unfold upO at hy
    split at hy
    ·cases hy
     have:0<far s.1 s.2:=by rw [z9d]; exact z0x hd
     have:=y5e (n:=(crs s.1 s.2*crs s.1 s.2).toNat) (d:=(far s.1 s.2).toNat) (by omega)
     omega
    ·cases hy
   ·unfold upO at hy
    split at hy
    ·cases hy
     have:0<far s.1 s.2:=by rw [z9d]; exact z0x hd
     have:=y5e (n:=(crs s.1 s.2*crs s.1 s.2).toNat) (d:=(far s.1 s.2).toNat) (by omega)
     omega
    ·cases hy
 ·refine ⟨frA s.1,z4e m1,back _ (pos _).1 ?_ (pos _).2⟩
  have:=corner s.1 _ hq
  rw [he]; omega
end Go.Am
end
section
namespace Go.Am
open M06
theorem pt1 {S:List Pt} {u:Pt} (h:u∈S):InH S u 1:=fun d=>⟨_,h,by simp [crs,sb,ml]⟩
theorem x9m {B:List Pt} (hB:Cyc B B) {p x:Pt} (hx:x∈y21 B p):
  ∃ f∈B,∃ g∈B,∃ s t:Int,0≤s∧0≤t∧0<s+t∧x.1*((s+t)*(s+t))=dt (ad (ml (sb p f) s) (ml (sb p g) t)) (ad (ml (sb p f) s) (ml (sb p g) t))*x.2:=by
 rcases z9v.1 hx with ⟨q,hq,rfl⟩|⟨i,hi,hu⟩
 ·refine ⟨q,hq,q,hq,1,0,by omega,by omega,by omega,?_⟩
  unfold frd
  rw [w0r (by omega),Int.toNat_of_nonneg (z12 _)]
  simp only [dt,sb,ad,ml]; grind
 ·obtain ⟨h1,v,h2,h3⟩:=w6b hB hi
  generalize sdP B i=f at*
  rw [h3] at hu
  unfold x4t at hu
  split at hu
  ·cases hu
  ·rename_i hn
   have hn1:0<dt (sb v f) (sb p f):=by omega
   have hn2:dt (sb v f) (sb p f)<dt (sb v f) (sb v f):=by omega
   cases hu
   refine ⟨f,h1,v,h2,dt (sb v f) (sb v f) - dt (sb v f) (sb p f),dt (sb v f) (sb p f),by omega,by omega,by omega,?_⟩
   rw [w0r (by omega),Int.toNat_of_nonneg (z2e _),Int.toNat_of_nonneg (by omega)]
   simp only [dt,sb,ad,ml,crs]; grind
theorem w86 {a b:List Pt} (ha:Cyc a a) (hb:Cyc b b) {x:Pt} (hx:x∈y30 a b):∃ (Z:Pt) (k:Int),0<k∧InH (dif a b) Z k∧x.1*(k*k)=dt Z Z*x.2:=by
 have hne:=y7j (z8x ha) (z8x hb)
 have hD:=z2f hne
 have hcc:=z1w hD
 have two:∀ {u v:Pt} {s t:Int},u∈dif a b→v∈dif a b→0≤s→0≤t→InH (dif a b) (ad (ml u s) (ml v t)) (s+t):=by
  intro u v s t hu hv hs ht
  have h1:=(z47 hD (show (0:Int)≤1 by omega)).1 (pt1 hu)
  have h2:=(z47 hD (show (0:Int)≤1 by omega)).1 (pt1 hv)
  have h3:=y8w hcc h1 h2 (by omega) (by omega) hs ht
  rw [Int.mul_one,Int.mul_one] at h3
  exact (z47 hD (by omega)).2 h3
 unfold y30 at hx
 rcases List.mem_append.1 hx with hx|hx
 ·obtain ⟨p,hp,h⟩:=List.mem_flatMap.1 hx
  obtain ⟨f,hf,g,hg,s,t,h1,h2,h3,h4⟩:=x9m hb h
  exact ⟨_,_,h3,two (z13.2 ⟨p,hp,f,hf,rfl⟩) (z13.2 ⟨p,hp,g,hg,rfl⟩) h1 h2,h4⟩
 ·obtain ⟨p,hp,h⟩:=List.mem_flatMap.1 hx
  obtain ⟨f,hf,g,hg,s,t,h1,h2,h3,h4⟩:=x9m ha h
  refine ⟨_,_,h3,two (z13.2 ⟨f,hf,p,hp,rfl⟩) (z13.2 ⟨g,hg,p,hp,rfl⟩) h1 h2,?_⟩
  rw [h4]
  congr 1
  simp only [dt,sb,ad,ml]; grind
theorem x1c {w v d:Pt} (h:crs w d=0):crs w v*dt d d=dt w d*crs d v∧dt w v*dt d d=dt w d*dt d v∧dt w w*dt d d=dt w d*dt w d:=by
 have e1:crs w v*dt d d=dt w d*crs d v+crs w d*dt d v:=by simp only [crs,dt]; grind
 have e2:dt w v*dt d d=dt w d*dt d v - crs w d*crs d v:=by simp only [crs,dt]; grind
 have e3:=lag w d
 rw [h] at e1 e2 e3
 exact ⟨by omega,by omega,by omega⟩
theorem x01 {B:List Pt} (hB:Cyc B B) {u v p d:Pt} {C:Int} (hu:u∈B) (hn:Nx B u v) (hd:d≠(0,0)) (hw:crs (sb v u) d=0) (h1:0<dt (sb v u) d*dt d (sb p u)) (h2:dt (sb v u) d*dt d (sb p v)<0)
  (hC:crs d (sb p u)*crs d (sb p u)=C*C):∃ x∈y21 B p,0<x.2∧x.1*dt d d≤C*C*x.2:=by
 have hdd:=z0x hd
 have hlen:2≤B.length:=by
  rcases Nat.lt_or_ge 1 B.length with h|h
  ·omega
  ·obtain ⟨a,rfl,_,_⟩:=y2r hB (by omega)
   have e1:=List.mem_singleton.1 hu
   have e2:=List.mem_singleton.1 hn.1
   exact absurd (e1.trans e2.symm) hn.2.1
 obtain ⟨i,hi,he⟩:=List.mem_map.1 ((y1k hB hlen (s:=(u,v))).2 ⟨hu,hn⟩)
 have hi:=List.mem_range.1 hi
 have q1:sdP B i=u:=congrArg Prod.fst he
 have q2:B.getD ((i+1) % B.length) (0,0)=v:=congrArg Prod.snd he
 have q3:sdW B i=sb v u:=by
  have:B.getD i (0,0)=u:=q1
  unfold sdW; rw [q2,this]
 obtain ⟨c1,c2,c3⟩:=x1c (v:=sb p u) hw
 obtain ⟨_,c4,_⟩:=x1c (v:=sb p v) hw
 have p1:0<dt (sb v u) (sb p u):=by
  rcases Int.lt_or_le 0 (dt (sb v u) (sb p u)) with h|h
  ·exact h
  ·have:=Int.mul_nonneg (show 0≤ - dt (sb v u) (sb p u) by omega) (Int.le_of_lt hdd)
   rw [Int.neg_mul] at this; omega
 have p2:dt (sb v u) (sb p v)<0:=by
  rcases Int.lt_or_le (dt (sb v u) (sb p v)) 0 with h|h
  ·exact h
  ·have:=Int.mul_nonneg h (Int.le_of_lt hdd); omega
 have p3:dt (sb v u) (sb p v)=dt (sb v u) (sb p u) - dt (sb v u) (sb v u):=by simp only [dt,sb]; grind
 have hup:x4t p u (sb v u)=some (fr (crs (sb v u) (sb p u)*crs (sb v u) (sb p u)).toNat (dt (sb v u) (sb v u)).toNat):=if_neg (by omega)
 refine ⟨_,z9v.2 (.inr ⟨i,hi,by rw [q1,q3]; exact hup⟩),?_,?_⟩
 ·have:=y5e (n:=(crs (sb v u) (sb p u)*crs (sb v u) (sb p u)).toNat) (d:=(dt (sb v u) (sb v u)).toNat) (by omega)
  omega
 ·rw [x51 (by omega),Int.toNat_of_nonneg (z2e _),Int.toNat_of_nonneg (by omega)]
  generalize crs (sb v u) (sb p u)=K at*
  generalize crs d (sb p u)=L at*
  generalize dt (sb v u) (sb v u)=W at*
  generalize dt (sb v u) d=E at*
  generalize dt d d=D at*
  have:(K*K*D)*D=(C*C*W)*D:=by
   have e1:(K*K*D)*D=(K*D)*(K*D):=by grind
   have e2:(C*C*W)*D=C*C*(W*D):=by grind
   rw [e1,c1,e2,c3, ←hC]; grind
  have:=Int.eq_of_mul_eq_mul_right (by omega) this
  omega
theorem face_nx {S:List Pt} {d a b:Pt} (h:y17 S d a b) (hne:a≠b) (hd:d≠(0,0)):Nx S a b:=by
 have hdd:=z0x hd
 have hb:=(h.on b h.inb h.par).1
 have hpos:0<dt d (sb b a):=by
  rcases Int.lt_or_le 0 (dt d (sb b a)) with k|k
  ·exact k
  ·exact absurd (z1a.1 (z6p hd h.par (by omega))).symm hne
 have hs:z6r d (sb b a):=⟨h.par,hpos⟩
 refine ⟨h.inb,hne,fun x hx=>?_⟩
 obtain ⟨m1,m2⟩:=hs.mul (sb x a)
 have hl:=h.left x hx
 refine ⟨?_,fun h0=>?_⟩
 ·show 0≤crs (sb b a) (sb x a)
  have:=Int.mul_nonneg (Int.le_of_lt hpos) hl
  rw [←m1] at this
  rcases Int.lt_or_le (crs (sb b a) (sb x a)) 0 with k|k
  ·have:=Int.mul_pos hdd (show 0< - crs (sb b a) (sb x a) by omega)
   rw [Int.mul_neg] at this; omega
  ·exact k
 ·have h0':crs (sb b a) (sb x a)=0:=h0
  rw [h0',Int.mul_zero] at m1
  have hz:crs d (sb x a)=0:=by
   rcases Int.mul_eq_zero.1 m1.symm with k|k
   ·omega
   ·exact k
  obtain ⟨o1,o2⟩:=h.on x hx hz
  refine ⟨?_,?_⟩
  ·have:=Int.mul_nonneg (Int.le_of_lt hpos) o1
   rw [←m2] at this
   rcases Int.lt_or_le (dt (sb b a) (sb x a)) 0 with k|k
   ·have:=Int.mul_pos hdd (show 0< - dt (sb b a) (sb x a) by omega)
    rw [Int.mul_neg] at this; omega
   ·exact k
  ·rw [z9d,z9d]
   have l1:=lag d (sb x a)
   have l2:=lag d (sb b a)
   rw [hz] at l1
   rw [h.par] at l2
   have e:dt d (sb b x)=dt d (sb b a) - dt d (sb x a):=by simp only [dt,sb]; grind
   have:=w3d (.inl ⟨o1,show dt d (sb x a)≤dt d (sb b a) by omega⟩)
   have:dt d d*dt (sb x a) (sb x a)≤dt d d*dt (sb b a) (sb b a):=by omega
   exact Int.le_of_mul_le_mul_left this hdd
theorem w3q {a b:List Pt} (ha:Cyc a a) (hb:Cyc b b) {y:Pt} (hy:y∈w75 (z1g (dif a b)) (z1g (dif a b)).length):∃ x∈y30 a b,0<x.2∧x.1*y.2≤y.1*x.2:=by
 have hne:=y7j (z8x ha) (z8x hb)
 have hD:=z2f hne
 have hcc:=z1w hD
 obtain ⟨i,hi,hy⟩:=y3v.1 hy
 obtain ⟨u,hu⟩:=z0l hi
 obtain ⟨v,hv⟩:=z0l (l:=z1g (dif a b)) (i:=(i+1) % (z1g (dif a b)).length) (Nat.mod_lt _ (by omega))
 have hsP:sdP (z1g (dif a b)) i=u:=z6k hu
 have hnP:nxP (z1g (dif a b)) i=v:=z6k hv
 have mu:=z4z hD u (List.mem_of_getElem? hu)
 have mv:=z4z hD v (List.mem_of_getElem? hv)
 obtain ⟨p1,hp1,q1,hq1,e1⟩:=z13.1 mu
 obtain ⟨p2,hp2,q2,hq2,e2⟩:=z13.1 mv
 unfold v02 at hy
 rw [hsP,hnP] at hy
 rcases List.mem_cons.1 hy with rfl|hy
 ·refine ⟨frd p1 q1,List.mem_append.2 (.inl (List.mem_flatMap.2 ⟨p1,hp1,z9v.2 (.inl ⟨q1,hq1,rfl⟩)⟩)),?_,?_⟩
  ·have:=y5e (n:=(dt (sb q1 p1) (sb q1 p1)).toNat) (d:=1) (by omega)
   unfold frd; omega
  ·have:frd p1 q1=frA u:=by
    unfold frd frA
    rw [y1t,e1]
    congr 2
    simp only [dt,sb]; grind
   rw [this]; exact Int.le_refl _
 cases hup:upO u v with
 |none=>rw [hup] at hy; simp at hy
 |some z=>
 rw [hup] at hy
 simp only [List.mem_singleton] at hy
 subst hy
 unfold upO at hup
 split at hup
 case isFalse=>cases hup
 rename_i hq
 cases hup
 obtain ⟨k1,k2⟩:=hq
 have hd:sb v u≠(0,0):=by
  intro h; rw [h] at k1; simp [dt] at k1
 have hlen:2≤(z1g (dif a b)).length:=by
  rcases Nat.lt_or_ge 1 (z1g (dif a b)).length with h|h
  ·omega
  ·obtain ⟨w,hw,_,_⟩:=y2r hcc (by omega)
   rw [hw] at hu hv
   have x1:=List.mem_of_getElem? hu
   have x2:=List.mem_of_getElem? hv
   have x1:=List.mem_singleton.1 x1
   have x2:=List.mem_singleton.1 x2
   exact absurd (z1a.2 (x2.trans x1.symm)) hd
 have hnx:=z7h hD hlen hu hv
 have hside:∀ z∈dif a b,0≤crs (sb v u) (sb z u):=fun z hz=>(hnx.2.2 z hz).1
 generalize hde:sb v u=d at*
 have hdd:=z0x hd
 have fa:∀ p∈a,0≤crs d (sb p p1):=fun p hp=>by
  have:=hside (sb p q1) (z13.2 ⟨p,hp,q1,hq1,rfl⟩)
  rw [e1] at this
  have e:crs d (sb (sb p q1) (sb p1 q1))=crs d (sb p p1):=by simp only [crs,sb]; grind
  omega
 have fb:∀ q∈b,0≤crs d (sb q1 q):=fun q hq=>by
  have:=hside (sb p1 q) (z13.2 ⟨p1,hp1,q,hq,rfl⟩)
  rw [e1] at this
  have e:crs d (sb (sb p1 q) (sb p1 q1))=crs d (sb q1 q):=by simp only [crs,sb]; grind
  omega
 have hvu:crs d (sb v u)=0:=by rw [hde]; simp only [crs]; grind
 have hpar:crs d (sb p2 p1)+crs d (sb q1 q2)=0:=by
  have e:crs d (sb v u)=crs d (sb p2 p1)+crs d (sb q1 q2):=by rw [e1,e2]; simp only [crs,sb]; grind
  omega
 have z1:crs d (sb p2 p1)=0:=by have:=fa p2 hp2; have:=fb q2 hq2; omega
 have z2:crs d (sb q1 q2)=0:=by omega
 obtain ⟨A1,A2,FA⟩:∃ A1 A2,y17 a d A1 A2:=⟨_,_,z64 ha hd⟩
 obtain ⟨B1,B2,FB⟩:∃ B1 B2,y17 b (ng d) B1 B2:=⟨_,_,z64 hb (w8g hd)⟩
 have ngc:∀ x:Pt,crs (ng d) x= - crs d x:=fun x=>by simp only [crs,ng]; grind
 have ngd:∀ x:Pt,dt (ng d) x= - dt d x:=fun x=>by simp only [dt,ng]; grind
 have a1:crs d (sb p1 A1)=0:=by
  have h1:=fa A1 FA.ina
  have h2:=FA.left p1 hp1
  have e:crs d (sb p1 A1)= - crs d (sb A1 p1):=z9h ..
  omega
 have a2:crs d (sb p2 A1)=0:=by
  have e:crs d (sb p2 A1)=crs d (sb p2 p1)+crs d (sb p1 A1):=by simp only [crs,sb]; grind
  omega
 have b1:crs d (sb q1 B1)=0:=by
  have h1:=fb B1 FB.ina
  have h2:=FB.left q1 hq1
  rw [ngc] at h2
  omega
 have b2:crs d (sb q2 B1)=0:=by
  have e:crs d (sb q2 B1)=crs d (sb q1 B1) - crs d (sb q1 q2):=by simp only [crs,sb]; grind
  omega
 have oa1:=(FA.on p1 hp1 a1).1
 have oa2:=(FA.on p2 hp2 a2).2
 have ob1:=(FB.on q1 hq1 (by rw [ngc]; omega)).1
 have ob2:=(FB.on q2 hq2 (by rw [ngc]; omega)).2
 rw [ngd] at ob1 ob2
 have ku:dt d u=dt d p1 - dt d q1:=by rw [e1]; simp only [dt,sb]; grind
 have kv:dt d v=dt d p2 - dt d q2:=by rw [e2]; simp only [dt,sb]; grind
 have cu:dt u d=dt d u:=by simp only [dt]; grind
 have cv:dt v d=dt d v:=by simp only [dt]; grind
 simp only [z8r] at oa1 oa2 ob1 ob2
 have o1:dt d A1<dt d B1:=by omega
 have o2:dt d B2<dt d A2:=by omega
 have hC:crs d u=crs d p1 - crs d q1:=by rw [e1]; simp only [crs,sb]; grind
 have hcuv:crs u v*crs u v=crs d u*crs d u:=by
  have:crs u v= - crs d u:=by rw [←hde]; simp only [crs,sb]; grind
  rw [this,Int.neg_mul_neg]
 have fin:∀ x:Pt,0<x.2→x.1*dt d d≤crs d u*crs d u*x.2→x.1*(fr (crs u v*crs u v).toNat (far u v).toNat).2≤(fr (crs u v*crs u v).toNat (far u v).toNat).1*x.2:=by
  intro x hx0 hx
  have hf:far u v=dt d d:=by rw [z9d,hde]
  have hpos:0<(far u v).toNat:=by omega
  have hat:=(w0r (n:=(crs u v*crs u v).toNat) (d:=(far u v).toNat) (A:=dt d d) (B:=crs d u*crs d u) hpos).2 (by
   rw [Int.toNat_of_nonneg (z2e _),Int.toNat_of_nonneg (by omega),hcuv,hf])
  have hp:=y5e (n:=(crs u v*crs u v).toNat) hpos
  generalize fr (crs u v*crs u v).toNat (far u v).toNat=y at*
  have h3:=Int.mul_le_mul_of_nonneg_right hx (show 0≤y.2 by omega)
  have e3:x.1*dt d d*y.2=(x.1*y.2)*dt d d:=by grind
  have e4:crs d u*crs d u*x.2*y.2=(crs d u*crs d u*y.2)*x.2:=by grind
  rw [e3,e4, ←hat] at h3
  have e5:y.1*dt d d*x.2=(y.1*x.2)*dt d d:=by grind
  rw [e5] at h3
  exact Int.le_of_mul_le_mul_right h3 hdd
 have pB:=FB.par
 rw [ngc] at pB
 have cA:crs d A1=crs d p1:=by have:=z6o d p1 A1; omega
 have cA2:crs d A2=crs d A1:=by have:=FA.par; have:=z6o d A2 A1; omega
 have cB:crs d B1=crs d q1:=by have:=z6o d q1 B1; omega
 have cB2:crs d B2=crs d B1:=by have:=z6o d B2 B1; omega
 rcases Int.lt_trichotomy (dt d A1) (dt d B2) with h|h|h
 ·
  have hAne:A1≠A2:=by intro e; rw [e] at h; omega
  obtain ⟨x,x1,x2,x3⟩:=x01 ha (p:=B2) (d:=d) (C:=crs d u) FA.ina (face_nx FA hAne hd) hd (by have:=FA.par; simp only [crs,sb] at this⊢; grind)
   (by
    have e5:dt (sb A2 A1) d=dt d A2 - dt d A1:=by simp only [dt,sb]; grind
    rw [e5,z8r]; exact Int.mul_pos (by omega) (by omega))
   (by
    have e5:dt (sb A2 A1) d=dt d A2 - dt d A1:=by simp only [dt,sb]; grind
    rw [e5,z8r]
    have:=Int.mul_pos (show 0<dt d A2 - dt d A1 by omega) (show 0<dt d A2 - dt d B2 by omega)
    have e6:(dt d A2 - dt d A1)*(dt d B2 - dt d A2)= - ((dt d A2 - dt d A1)*(dt d A2 - dt d B2)):=by grind
    omega)
   (by
    have:crs d (sb B2 A1)= - crs d u:=by rw [z6o]; omega
    rw [this,Int.neg_mul_neg])
  exact ⟨x,List.mem_append.2 (.inr (List.mem_flatMap.2 ⟨B2,FB.inb,x1⟩)),x2,fin x x2 x3⟩
 ·
  have hpos:0<(frd A1 B2).2:=by
   have:=y5e (n:=(dt (sb B2 A1) (sb B2 A1)).toNat) (d:=1) (by omega)
   unfold frd; omega
  refine ⟨frd A1 B2,List.mem_append.2 (.inl (List.mem_flatMap.2 ⟨A1,FA.ina,z9v.2 (.inl ⟨B2,FB.inb,rfl⟩)⟩)),hpos,fin _ hpos ?_⟩
  unfold frd
  rw [x51 (by omega),Int.toNat_of_nonneg (z12 _)]
  have hl:=lag (sb B2 A1) d
  have e6:dt (sb B2 A1) d=0:=by
   have:dt (sb B2 A1) d=dt d B2 - dt d A1:=by simp only [dt,sb]; grind
   omega
  have e7:crs (sb B2 A1) d=crs d u:=by
   have:crs (sb B2 A1) d=crs d A1 - crs d B2:=by simp only [crs,sb]; grind
   omega
  rw [e6,e7] at hl
  rw [hl]; simp
 ·
  have hBne:B1≠B2:=by intro e; rw [←e] at h; omega
  obtain ⟨x,x1,x2,x3⟩:=x01 hb (p:=A1) (d:=d) (C:=crs d u) FB.ina (face_nx FB hBne (w8g hd)) hd (by have:=pB; simp only [crs,sb] at this⊢; grind)
   (by
    have e5:dt (sb B2 B1) d=dt d B2 - dt d B1:=by simp only [dt,sb]; grind
    rw [e5,z8r]
    have:=Int.mul_pos (show 0<dt d B1 - dt d B2 by omega) (show 0<dt d B1 - dt d A1 by omega)
    have e6:(dt d B2 - dt d B1)*(dt d A1 - dt d B1)=(dt d B1 - dt d B2)*(dt d B1 - dt d A1):=by grind
    omega)
   (by
    have e5:dt (sb B2 B1) d=dt d B2 - dt d B1:=by simp only [dt,sb]; grind
    rw [e5,z8r]
    have:=Int.mul_pos (show 0<dt d B1 - dt d B2 by omega) (show 0<dt d A1 - dt d B2 by omega)
    have e6:(dt d B2 - dt d B1)*(dt d A1 - dt d B2)= - ((dt d B1 - dt d B2)*(dt d A1 - dt d B2)):=by grind
    omega)
   (by
    have:crs d (sb A1 B1)=crs d u:=by rw [z6o]; omega
    rw [this])
  exact ⟨x,List.mem_append.2 (.inl (List.mem_flatMap.2 ⟨A1,FA.ina,x1⟩)),x2,fin x x2 x3⟩
end Go.Am
end
section
namespace Go.Am
section
variable {κ ν:Type} [DecidableEq κ]
end
structure v6a (κ ν:Type) where
 ke:κ→D
 ve:ν→D
 ks:List SK
 ka:Bool
 va:Bool
 ck:List CK
structure v6a.Ok {κ ν:Type} [DecidableEq κ] (E:v6a κ ν):Prop where
 agg:∀ k,z14 (E.ke k)=E.ka
 kinds:∀ k,z1o E.ks (z1b (E.ke k))=true
 eq:∀ a b,z8n E.ks (z1b (E.ke a)) (z1b (E.ke b))=some (decide (a=b))
 vagg:∀ v,z14 (E.ve v)=E.va
 vok:∀ v,z3c E.ck (z1b (E.ve v))=true
def v6a.enc {κ ν:Type} (E:v6a κ ν) (m:List (κ×ν)):List (D×D):=m.map fun e=>(E.ke e.1,E.ve e.2)
section
variable {κ ν:Type} [DecidableEq κ] {E:v6a κ ν} (h:E.Ok)
include h
end
end Go.Am
end
section
namespace Go.Am
open M06
theorem w3n {c:List Pt} (kc:∀ x∈c,z0m (-10000) 10000 x):∀ x∈w75 c c.length,Frc x:=fun x hx=>by
 obtain ⟨i,hi,hx⟩:=y3v.1 hx
 obtain ⟨u,hu⟩:=z0l hi
 obtain ⟨v,hv⟩:=z0l (l:=c) (i:=(i+1) % c.length) (Nat.mod_lt _ (by omega))
 have h1:sdP c i=u:=z6k hu
 have h2:nxP c i=v:=z6k hv
 have bu:=kc u (List.mem_of_getElem? hu)
 have bv:=kc v (List.mem_of_getElem? hv)
 unfold v02 at hx
 rw [h1,h2] at hx
 rcases List.mem_cons.1 hx with rfl|hx
 ·exact w9m bu
 ·cases hup:upO u v with
  |none=>rw [hup] at hx; simp at hx
  |some y=>rw [hup] at hx; simp only [List.mem_singleton] at hx; subst hx; exact w7m bu bv hup
theorem w8f {l:List Pt} {hs:List (List Pt)} (hf:z49 l hs) {m:List Pt} {ks:List (List Pt)} (hk:z49 m ks) (hc:z35 l hs m ks=false):¬ InH (z1g (dif (z1g (z1i l hs)) (z1g (z1i m ks)))) (0,0) 1:=fun h=>by
 have hD:=z2f (y7j (z4g hf.allNe) (z4g hk.allNe))
 have:z35 l hs m ks=true:=(z9a (z1w hD) (by omega)).2 h
 rw [hc] at this; cases this
end Go.Am
end
section
namespace Go.Am
open M06
theorem z5i (l:List Int):(y1v l).length=l.length:=by simp [y1v]
theorem w1e {l:List Int} {i:Nat} {n:Int} (h:l[i]?=some n):(y1v l)[i]?=some (eB n):=by simp [y1v,h]
theorem w5e (n:Int):z3c [CK.int IntKind.u8] (eB n)=true:=rfl
theorem u0l (n:Int):dI ((eB n)[0]?.getD D.nilp)=n:=rfl
theorem y7z {n:Int} (h:(Lit.int IntKind.u8 n).wf=true):0≤n∧n≤255:=by
 have h:IntKind.u8.min≤n∧n≤IntKind.u8.max:=by simpa [Lit.wf] using h
 have e1:IntKind.u8.min=0:=rfl
 have e2:IntKind.u8.max=255:=rfl
 omega
theorem w68 {l:List Pt} (hl:l≠[]) (hll:l.length≤1000) (hb:∀ x∈l,z0m (-1000) 1000 x) {n:Nat} (hn:n≤20) {bs:List Int} (hbs:∀ b∈bs,(Lit.int IntKind.u8 b).wf=true) (hbl:bs.length≤1000) {at':Nat} (hat:at'≤1000):
  ∃ ks:List Pt,G75 std (z0d l,(n:Int),y1v bs,(at':Int),())=some ((z1p ks).1,(z1p ks).2,())∧ks.length=n∧∀ x∈ks,x∈l:=by
 have hl1:1≤l.length:=List.length_pos_iff.2 hl
 have key:=z34 (b:=w19 std) n (fun (ks:List Pt) (i:Nat)=>((0:Int),(0:Int),(z1p ks).1,(z1p ks).2,z0d l,(n:Int),y1v bs,(at':Int),(i:Int),())) (fun ks i=>ks.length=i∧∀ x∈ks,x∈l)
  (fun r=>∃ ks:List Pt,r=((0:Int),(0:Int),(z1p ks).1,(z1p ks).2,())∧ks.length=n∧∀ x∈ks,x∈l) (fun ks i hi ⟨h1,h2⟩=>by
  left
  have c1:(i:Int)<(n:Int):=by omega
  have c2:(i:Int)≥0:=by omega
  have hw:=z04 (i:=i) (by omega)
  have hsum:∀ ks:List Pt,ks.length≤20→(∀ x∈ks,x∈l)→z0m (-20000) 20000 (z1p ks):=by
   intro ks
   have:∀ ks:List Pt,(∀ x∈ks,x∈l)→z0m (-(1000*(ks.length:Int))) (1000*(ks.length:Int)) (z1p ks):=by
    intro ks
    induction ks with
    |nil=>intro _; simp [z1p,z0m]
    |cons x ks ih=>
     intro h
     have b1:=hb x (h x (by simp))
     have b2:=ih (fun y hy=>h y (List.mem_cons_of_mem _ hy))
     rw [z01]
     simp only [z0m,ad,List.length_cons] at*
     omega
   intro hk h
   have:=this ks h
   simp only [z0m] at*
   omega
  have hb0:=hsum ks (by omega) h2
  have fin:∀ (j:Nat) (x:Pt),l[j]?=some x→IntKind.i64.wrap ((z1p ks).1+x.1)=(z1p (x::ks)).1∧IntKind.i64.wrap ((z1p ks).2+x.2)=(z1p (x::ks)).2:=by
   intro j x hx
   have b1:=hb x (List.mem_of_getElem? hx)
   rw [z01]
   simp only [z0m,ad] at*
   exact ⟨by rw [z00]<;>omega,by rw [z00]<;>omega⟩
  by_cases h0:bs.length=0
  ·obtain ⟨x,hx⟩:=z0l (l:=l) (i:=0) (by omega)
   obtain ⟨f1,f2⟩:=fin 0 x hx
   refine ⟨x::ks,?_,by simp [h1],fun y hy=>?_⟩
   ·have c3:¬ (bs.length:Int)>0:=by omega
    have gx:=z0w hx
    simp only [w19,z0u,z0v,z0g,z0z,z0y,z1f,z0i,z0c,z5i,z0b,hw,c1,c2,c3,Int.toNat_zero,gx,f1,f2,ge_iff_le,Int.le_refl]
   ·rcases List.mem_cons.1 hy with rfl|hy
    ·exact List.mem_of_getElem? hx
    ·exact h2 y hy
  ·obtain ⟨b,hbb⟩:=z0l (l:=bs) (i:=(at'+i) % bs.length) (Nat.mod_lt _ (by omega))
   have hbr:=y7z (hbs b (List.mem_of_getElem? hbb))
   obtain ⟨x,hx⟩:=z0l (l:=l) (i:=b.toNat % l.length) (Nat.mod_lt _ (by omega))
   obtain ⟨f1,f2⟩:=fin _ x hx
   refine ⟨x::ks,?_,by simp [h1],fun y hy=>?_⟩
   ·have c3:(bs.length:Int)>0:=by omega
    have c4:¬ (bs.length:Int)=0:=by omega
    have c5:¬ (l.length:Int)=0:=by omega
    have w1:IntKind.i64.wrap ((at':Int)+(i:Int))=((at'+i:Nat):Int):=by rw [z00]<;>omega
    have w2:(((at'+i:Nat):Int)).tmod (bs.length:Int)=(((at'+i) % bs.length:Nat):Int):=by
     rw [Int.tmod_eq_emod_of_nonneg (by omega)]; rfl
    have w3:IntKind.i64.wrap b=b:=by rw [z00]<;>omega
    have w4:b.tmod (l.length:Int)=((b.toNat % l.length:Nat):Int):=by
     have:b=(b.toNat:Int):=by omega
     rw [this,Int.tmod_eq_emod_of_nonneg (by omega)]
     simp
    have c6:(((at'+i) % bs.length:Nat):Int)≥0:=by omega
    have c7:((b.toNat % l.length:Nat):Int)≥0:=by omega
    have gx:=z0w hx
    have gb:=w1e hbb
    simp only [w19,z0u,z0v,z0g,z0z,z0y,z1f,z0i,z0c,z5i,w5e,u0l,z0b,z1x,hw,c1,c2,c3,c4,c5,c6,c7,w1,w2,w3,w4,gx,gb,f1,f2,not_false_eq_true]
   ·rcases List.mem_cons.1 hy with rfl|hy
    ·exact List.mem_of_getElem? hx
    ·exact h2 y hy) (fun ks ⟨h1,h2⟩=>by
  have hn':¬ ((n:Int)<(n:Int)):=by omega
  exact ⟨((0:Int),(0:Int),(z1p ks).1,(z1p ks).2,()),by simp only [w19,z0u,z0v,hn'],ks,rfl,h1,h2⟩) [] 0 (Nat.zero_le _) ⟨rfl,by simp⟩
 obtain ⟨r,h1,ks,h2,h3,h4⟩:=key
 subst h2
 refine ⟨ks,?_,h3,h4⟩
 unfold G75
 have e0:(z1p ([]:List Pt)).1=0:=rfl
 have e1:(z1p ([]:List Pt)).2=0:=rfl
 have k0:((0:Nat):Int)=0:=rfl
 rw [e0,e1,k0] at h1
 simp only [g75,it0_eq,z0u,z0v,h1]
theorem x84:∀ {a b:List Pt},a.length=b.length→z1p (List.zipWith ad a b)=ad (z1p a) (z1p b)
 |[],[],_=>rfl
 |x::a,y::b,h=>by
  have:=x84 (a:=a) (b:=b) (by simpa using h)
  rw [List.zipWith_cons_cons,z01,z01,z01,this]
  simp only [ad]; exact Prod.ext (by simp; omega) (by simp; omega)
theorem x8v {A B a b:List Pt} (ha:∀ x∈a,x∈A) (hb:∀ x∈b,x∈B):∀ z∈List.zipWith ad a b,z∈z20 A B:=by
 intro z hz
 obtain ⟨i,hi⟩:=List.getElem?_of_mem hz
 rw [List.getElem?_zipWith] at hi
 cases h1:a[i]? with
 |none=>simp [h1] at hi
 |some x=>
  cases h2:b[i]? with
  |none=>simp [h1,h2] at hi
  |some y=>
   simp [h1,h2] at hi
   exact (z6j z).2 ⟨x,ha x (List.mem_of_getElem? h1),y,hb y (List.mem_of_getElem? h2),hi.symm⟩
def z5o (n:Int):Int:=1+n % 20
theorem y9q {A:List Pt} (hA:∀ x∈A,z0m (-5000) 5000 x):∀ {ks:List Pt},ks.length≤20→(∀ x∈ks,x∈A)→z0m (-100000) 100000 (z1p ks):=by
 have:∀ ks:List Pt,(∀ x∈ks,x∈A)→z0m (-(5000*(ks.length:Int))) (5000*(ks.length:Int)) (z1p ks):=by
  intro ks
  induction ks with
  |nil=>intro _; simp [z1p,z0m]
  |cons x ks ih=>
   intro h
   have b1:=hA x (h x (by simp))
   have b2:=ih (fun y hy=>h y (List.mem_cons_of_mem _ hy))
   rw [z01]
   simp only [z0m,ad,List.length_cons] at*
   omega
 intro ks hk h
 have:=this ks h
 simp only [z0m] at*
 omega
theorem w7f {l:List Pt} {hs:List (List Pt)} (hf:z49 l hs) {n:Int} (hn:(Lit.int IntKind.u8 n).wf=true) {bs:List Int} (hbs:∀ b∈bs,(Lit.int IntKind.u8 b).wf=true) (hbl:bs.length≤1000):
  ∃ ks:List Pt,G33 std (z0d l,z1s hs,n,y1v bs,())=some ((z1p ks).1,(z1p ks).2,z5o n,())∧(ks.length:Int)=z5o n∧(∀ x∈ks,x∈z1i l hs):=by
 have hr:=y7z hn
 obtain ⟨m,hm⟩:∃ m:Nat,(m:Int)=z5o n:=⟨(z5o n).toNat,by unfold z5o; omega⟩
 have hm20:m≤20:=by unfold z5o at hm; omega
 have hlb:∀ x∈l,z0m (-1000) 1000 x:=fun x hx=>by obtain ⟨a,b,c,d⟩:=hf.box x hx; exact ⟨by omega,by omega,by omega,by omega⟩
 obtain ⟨k0,h1,h2,h3⟩:=w68 hf.ne (by have:=hf.many.2; omega) hlb hm20 hbs hbl (at':=0) (by omega)
 have key:=z34 (b:=w5g it0 std) hs.length (fun (ks:List Pt) (i:Nat)=>(z0d l,z1s hs,(0:Int),(0:Int),(0:Int),(z1p ks).1,(z1p ks).2,y1v bs,(m:Int),(i:Int),())) (fun ks i=>ks.length=m∧∀ x∈ks,x∈z1i l (hs.take i))
  (fun r=>∃ ks:List Pt,r=((0:Int),(0:Int),(0:Int),(z1p ks).1,(z1p ks).2,(m:Int),())∧ks.length=m∧∀ x∈ks,x∈z1i l hs) (fun ks i hi ⟨i1,i2⟩=>by
  left
  obtain ⟨h,hh⟩:=z0l hi
  have hmem:=List.mem_of_getElem? hh
  have gh:=y85 hh
  have h4:=hf.few
  have him:(i+1)*m≤5*20:=Nat.mul_le_mul (by omega) hm20
  obtain ⟨qs,q1,q2,q3⟩:=w68 (hf.neH h hmem) (by have:=(hf.manyH h hmem).2; omega) (hf.boxH h hmem) hm20 hbs hbl (at':=(i+1)*m) (by omega)
  have c1:(i:Int)<(hs.length:Int):=by omega
  have c2:(i:Int)≥0:=by omega
  have hw:=z04 (i:=i) (by omega)
  have hw2:IntKind.i64.wrap (((i+1:Nat):Int)*(m:Int))=(((i+1)*m:Nat):Int):=by
   rw [←Int.natCast_mul]
   rw [z00]<;>omega
  have b1:=y9q (hf.take i).boxA (ks:=ks) (by omega) i2
  have b2:=y9q (A:=h) (fun x hx=>by obtain ⟨a,b,c,d⟩:=hf.boxH h hmem x hx; exact ⟨by omega,by omega,by omega,by omega⟩) (ks:=qs) (by omega) q3
  have e1:(z1p (List.zipWith ad ks qs))=ad (z1p ks) (z1p qs):=x84 (by omega)
  have w1:IntKind.i64.wrap ((z1p ks).1+(z1p qs).1)=(z1p (List.zipWith ad ks qs)).1:=by
   rw [e1]; simp only [z0m,ad] at*; rw [z00]<;>omega
  have w2:IntKind.i64.wrap ((z1p ks).2+(z1p qs).2)=(z1p (List.zipWith ad ks qs)).2:=by
   rw [e1]; simp only [z0m,ad] at*; rw [z00]<;>omega
  refine ⟨List.zipWith ad ks qs,?_,by simp; omega,?_⟩
  ·have q1':g75 it0 std (z0d h,(m:Int),y1v bs,(((i+1)*m:Nat):Int),())=_:=q1
   simp only [w5g,z0u,z0v,y1u,z0b,z08,hw,hw2,c1,c2,gh,z67,x2d,q1',w1,w2]
  ·rw [z59 hh,y12]
   exact x8v i2 q3) (fun ks ⟨i1,i2⟩=>by
  have hn':¬ ((hs.length:Int)<(hs.length:Int)):=by omega
  rw [List.take_length] at i2
  exact ⟨((0:Int),(0:Int),(0:Int),(z1p ks).1,(z1p ks).2,(m:Int),()),by simp only [w5g,z0u,z0v,y1u,hn'],ks,rfl,i1,i2⟩) k0 0 (Nat.zero_le _) ⟨h2,h3⟩
 obtain ⟨r,r1,ks,r2,r3,r4⟩:=key
 subst r2
 refine ⟨ks,?_,by rw [r3,hm],r4⟩
 unfold G33
 have w1:IntKind.i64.wrap n=n:=by rw [z00]<;>omega
 have w2:n.tmod 20=n % 20:=Int.tmod_eq_emod_of_nonneg hr.1
 have w3:IntKind.i64.wrap (1+n % 20)=(m:Int):=by
  rw [hm]; unfold z5o; rw [z00]<;>omega
 have h1':g75 it0 std (z0d l,(m:Int),y1v bs,0,())=_:=h1
 have k0':((0:Nat):Int)=0:=rfl
 rw [k0'] at r1
 rw [←hm]
 simp only [g33,it0_eq,z0u,z0v,z0b,z1x,w1,w2,w3,h1',r1,show ¬ (20:Int)=0 by decide,not_false_eq_true]
theorem x5o {S c:List Pt} (hc:Cyc S c) {ks:List Pt} (h:∀ x∈ks,x∈S):InH c (z1p ks) (ks.length:Int):=by
 intro d
 obtain ⟨a,ha,hall⟩:=x4b hc d
 refine ⟨a,ha,?_⟩
 have:∀ ks:List Pt,(∀ x∈ks,x∈S)→0≤crs d (sb (z1p ks) (ml a (ks.length:Int))):=by
  intro ks
  induction ks with
  |nil=>intro _; simp [z1p,ml,crs,sb]
  |cons x ks ih=>
   intro h
   have h1:=hall x (h x (by simp))
   have h2:=ih (fun y hy=>h y (List.mem_cons_of_mem _ hy))
   have e:crs d (sb (z1p (x::ks)) (ml a ((x::ks).length:Int)))=crs d (sb x a)+crs d (sb (z1p ks) (ml a (ks.length:Int))):=by
    rw [z01]
    simp only [crs,sb,ml,ad,List.length_cons]
    have:(((ks.length+1:Nat)):Int)=(ks.length:Int)+1:=by omega
    rw [this]; grind
   omega
 exact this ks h
theorem InH.trans {S T:List Pt} {p:Pt} {k:Int} (hk:0≤k) (h:InH S p k) (hs:∀ x∈S,InH T x 1):InH T p k:=by
 intro d
 obtain ⟨x,hx,h0⟩:=h d
 obtain ⟨y,hy,h1⟩:=hs x hx d
 refine ⟨y,hy,?_⟩
 rw [x9h p x y k d]
 have e:crs d (sb x (ml y 1))=crs d (sb x y):=by simp [ml]
 rw [e] at h1
 have:=Int.mul_nonneg hk h1
 omega
theorem x3p {n:Int} (hn:(Lit.int IntKind.u8 n).wf=true):1≤z5o n∧z5o n≤20:=by
 have:=y7z hn
 unfold z5o; omega
end Go.Am
end
noncomputable section
namespace Go.Am
def ctr7:Ctr:=
 ⟨7,[.agg [.list 2, .list 1], .agg [.list 2, .list 1], .int .u8, .list 1, .list 1, .int .i16, .int .i16],[],[(.ret,⟨[(0, .bool)],[],1⟩)]⟩
def la7:List LA:=
 [⟨7,[false,true,false,true,true,true,true,true,true,true,true,true,true],0,⟨⟨[(5, .int .i16),(6, .int .i16),(7, .bptr 0 0),(8, .bptr 1 0),(15, .bptr 2 0),(24, .bptr 3 0),(25, .int .i64)],[.box [.list 2, .list 1], .box [.list 2, .list 1], .box [.int .i64, .int .i64], .box [.vec 4 2, .list 1], .row [ci,ci]],209⟩,[((AX.exit 0),⟨[(5, .int .i16),(6, .int .i16),(8, .bptr 0 0),(15, .bptr 1 0),(24, .bptr 2 0)],[.box [.list 2, .list 1], .box [.int .i64, .int .i64], .box [.vec 3 2, .list 1], .row [ci,ci]],209⟩)]⟩⟩]
def ja7:List JA:=
 [⟨7,[false,false,true],0,[(AX.normal,⟨[(2, .int .u8),(3, .list 1),(4, .list 1),(5, .int .i16),(6, .int .i16),(7, .bptr 0 0),(8, .bptr 1 0),(46, .bool)],[.box [.list 2, .list 1], .box [.list 2, .list 1]],209⟩)]⟩,
 ⟨7,[false,false,true,true,true,true,true],0,[(AX.normal,⟨[(2, .int .u8),(3, .list 1),(4, .list 1),(5, .int .i16),(6, .int .i16),(7, .bptr 0 0),(8, .bptr 1 0),(15, .bptr 2 0),(94, .bool)],[.box [.list 2, .list 1], .box [.list 2, .list 1], .box [.int .i64, .int .i64]],209⟩)]⟩,
 ⟨7,[false,false,true,true,true,true,true,true,true,true,true,true,true,true],0,[(AX.normal,⟨[(8, .bptr 0 0),(24, .bptr 1 0),(189, .bool)],[.box [.list 2, .list 1], .box [.vec 2 2, .list 1], .row [ci,ci]],209⟩)]⟩,
 ⟨29,[false,true],2,[(AX.normal,⟨[(2, .bool)],[.box [.list 2, .list 1], .box [.list 2, .list 1]],11⟩)]⟩,
 ⟨7,[false,true,true,true,true,true,true,true,true,true,true,true,true,true,true],0,[(AX.normal,⟨[(14, .bool)],[],209⟩)]⟩,
 ⟨29,[false,true],5,[(AX.normal,⟨[(2, .bool)],[.box [.list 2, .list 1], .box [.int .i64, .int .i64], .box [.vec 3 2, .list 1], .row [ci,ci], .box [.int .i64, .int .i64]],11⟩)]⟩]
def gam7:List CF:=
 [⟨w97,G36⟩,⟨v49,G31⟩,⟨v44,G35⟩,⟨v47,G34⟩,⟨v48,G33⟩,⟨w98,G32⟩,⟨w99,G25⟩,⟨v5g,G15⟩,⟨v0a,G19⟩,⟨v5h,G14⟩]
def an7:Anns:=
 ⟨gam7,ja7,[]⟩
def v5r (p:Prim):(LD×(LD×(LD×(LD×(LD×T84)))))→Option ((LD×(LD×(LD×(LD×(LD×T84)))))⊕(LD×(LD×(LD×T26)))):=
 fun a=>opt.run _ (
 opt.ask _ (p.cmp .lss a.2.2.2.2.2.2.2.2.2.2.1 (p.ofNat (p.len a.2.1))) (
 opt.need _ (p.rowOk a.2.1 (p.nat a.2.2.2.2.2.2.2.2.2.2.1) [ci,ci])<|
 opt.need _ (p.cmp .geq a.2.2.2.2.2.2.2.2.2.2.1 (0:Int))<|
 opt.need _ (p.rowOk a.2.1 (p.nat a.2.2.2.2.2.2.2.2.2.2.1) [ci,ci])<|
 opt.need _ (p.cmp .geq a.2.2.2.2.2.2.2.2.2.2.1 (0:Int))<|
 opt.bnd T4 _ (G31 p ((p.ar .add .i64 (p.rdI a.2.1 (p.nat a.2.2.2.2.2.2.2.2.2.2.1) 0) (p.cvt .i64 a.2.2.2.2.2.2.2.2.1)),((p.ar .add .i64 (p.rdI a.2.1 (p.nat a.2.2.2.2.2.2.2.2.2.2.1) 1) (p.cvt .i64 a.2.2.2.2.2.2.2.2.2.1)),()))) fun b=>
 opt.need _ (p.and (p.leN (p.add 0 1) (p.len [[(D.int .i64 b.1),(D.int .i64 b.2.1)]])) (p.and (p.leN (p.add 0 (p.len a.1)) (p.len a.1)) (p.and (p.leN 1 1) (p.leN (p.add (p.len a.1) 1) 1000000))))<|
 opt.need _ (p.eqN 0 0)<|
 opt.need _ (p.eqN (p.add (p.len a.1) 1) (p.len (p.app (p.cut a.1 0 (p.len a.1)) (p.cut [[(D.int .i64 b.1),(D.int .i64 b.2.1)]] 0 1))))<|
 opt.ret _ (Sum.inl ((p.app (p.cut a.1 0 (p.len a.1)) (p.cut [[(D.int .i64 b.1),(D.int .i64 b.2.1)]] 0 1)),(a.2.1,(a.2.2.1,(a.2.2.2.1,(a.2.2.2.2.1,(a.2.2.2.2.2.1,(a.2.2.2.2.2.2.1,(a.2.2.2.2.2.2.2.1,(a.2.2.2.2.2.2.2.2.1,(a.2.2.2.2.2.2.2.2.2.1,((p.ar .add .i64 a.2.2.2.2.2.2.2.2.2.2.1 (1:Int)),()))))))))))))) (
 opt.need _ (p.eqN 0 0)<|
 opt.need _ (p.eqN (p.len a.1) (p.len a.1))<|
 opt.ret _ (Sum.inr (a.1,(a.2.2.2.1,(a.2.2.2.2.1,(a.2.2.2.2.2.1,(a.2.2.2.2.2.2.1,(a.2.2.2.2.2.2.2.1,(a.2.2.2.2.2.2.2.2.1,(a.2.2.2.2.2.2.2.2.2.1,())))))))))))
def G7:(p:Prim)→(LD×(LD×(LD×(LD×(Int×(LD×(LD×(Int×(Int×Unit)))))))))→Option T2:=
 fun p x=>
 opt.bnd ((LD×(LD×(LD×(LD×T85))))) _ (
 opt.run ((LD×(LD×(LD×(LD×T85))))) (
 opt.bnd ((LD×(LD×(LD×(LD×T11))))) _ (
 opt.run ((LD×(LD×(LD×(LD×T11))))) (
 opt.bnd T2 _ (G14 p (x.1,(x.2.1,()))) fun a=>
 opt.ask _ (bif a.1 then Bool.false else Bool.true) (
 opt.bnd T0 _ (G19 p (x.1,(x.2.1,()))) fun b=>
 opt.ret _ (x.1,(x.2.1,(x.2.2.1,(x.2.2.2.1,((p.cmp .eql b.1 (0:Int)),())))))) (
 opt.ret _ (x.1,(x.2.1,(x.2.2.1,(x.2.2.2.1,(Bool.false,())))))))) fun c=>
 opt.ask _ (bif c.2.2.2.2.1 then Bool.false else Bool.true) (
 opt.ret _ (c.1,(c.2.1,(c.2.2.1,(c.2.2.2.1,(x.2.2.2.2.1,(x.2.2.2.2.2.1,(x.2.2.2.2.2.2.1,(x.2.2.2.2.2.2.2.1,(x.2.2.2.2.2.2.2.2.1,(Bool.true,()))))))))))) (
 opt.bnd ((LD×(LD×(LD×(LD×T11))))) _ (
 opt.run ((LD×(LD×(LD×(LD×T11))))) (
 opt.bnd T2 _ (G14 p (c.2.2.1,(c.2.2.2.1,()))) fun d=>
 opt.ask _ (bif d.1 then Bool.false else Bool.true) (
 opt.bnd T0 _ (G19 p (c.2.2.1,(c.2.2.2.1,()))) fun e=>
 opt.ret _ (c.1,(c.2.1,(c.2.2.1,(c.2.2.2.1,((p.cmp .eql e.1 (0:Int)),())))))) (
 opt.ret _ (c.1,(c.2.1,(c.2.2.1,(c.2.2.2.1,(Bool.false,())))))))) fun f=>
 opt.ask _ (bif f.2.2.2.2.1 then Bool.false else Bool.true) (
 opt.ret _ (f.1,(f.2.1,(f.2.2.1,(f.2.2.2.1,(x.2.2.2.2.1,(x.2.2.2.2.2.1,(x.2.2.2.2.2.2.1,(x.2.2.2.2.2.2.2.1,(x.2.2.2.2.2.2.2.2.1,(Bool.true,()))))))))))) (
 opt.ask _ (p.cmp .gtr (p.ofNat (p.len x.2.2.2.2.2.1)) (50:Int)) (
 opt.ret _ (f.1,(f.2.1,(f.2.2.1,(f.2.2.2.1,(x.2.2.2.2.1,(x.2.2.2.2.2.1,(x.2.2.2.2.2.2.1,(x.2.2.2.2.2.2.2.1,(x.2.2.2.2.2.2.2.2.1,(Bool.true,()))))))))))) (
 opt.ret _ (f.1,(f.2.1,(f.2.2.1,(f.2.2.2.1,(x.2.2.2.2.1,(x.2.2.2.2.2.1,(x.2.2.2.2.2.2.1,(x.2.2.2.2.2.2.2.1,(x.2.2.2.2.2.2.2.2.1,((p.cmp .gtr (p.ofNat (p.len x.2.2.2.2.2.2.1)) (50:Int)),()))))))))))))))) fun g=>
 opt.ask _ g.2.2.2.2.2.2.2.2.2.1 (
 opt.bnd T2 _ (G15 p ()) fun h=>
 opt.ret _ (h.1,())) (
 opt.bnd T6 _ (G25 p (g.1,(g.2.1,(g.2.2.1,(g.2.2.2.1,()))))) fun i=>
 opt.bnd T6 _ (G25 p (g.2.2.1,(g.2.2.2.1,(g.1,(g.2.1,()))))) fun j=>
 opt.bnd T8 _ (G32 p (g.1,(g.2.1,(g.2.2.1,(g.2.2.2.1,()))))) fun k=>
 opt.bnd ((LD×(LD×(LD×(LD×T86))))) _ (
 opt.run ((LD×(LD×(LD×(LD×T86))))) (
 opt.ask _ (p.cmp .neq i.2.2.1 (0:Int)) (
 opt.ret _ (g.1,(g.2.1,(g.2.2.1,(g.2.2.2.1,(i.1,(i.2.1,(g.2.2.2.2.1,(g.2.2.2.2.2.1,(g.2.2.2.2.2.2.1,(g.2.2.2.2.2.2.2.1,(g.2.2.2.2.2.2.2.2.1,(Bool.true,()))))))))))))) (
 opt.ask _ (p.cmp .neq j.2.2.1 (0:Int)) (
 opt.ret _ (g.1,(g.2.1,(g.2.2.1,(g.2.2.2.1,(i.1,(i.2.1,(g.2.2.2.2.1,(g.2.2.2.2.2.1,(g.2.2.2.2.2.2.1,(g.2.2.2.2.2.2.2.1,(g.2.2.2.2.2.2.2.2.1,(Bool.true,()))))))))))))) (
 opt.ask _ (bif (bif (p.cmp .eql j.1 i.1) then (bif (p.cmp .eql j.2.1 i.2.1) then Bool.true else Bool.false) else Bool.false) then Bool.false else Bool.true) (
 opt.ret _ (g.1,(g.2.1,(g.2.2.1,(g.2.2.2.1,(i.1,(i.2.1,(g.2.2.2.2.1,(g.2.2.2.2.2.1,(g.2.2.2.2.2.2.1,(g.2.2.2.2.2.2.2.1,(g.2.2.2.2.2.2.2.2.1,(Bool.true,()))))))))))))) (
 opt.ask _ (p.cmp .lss i.1 (0:Int)) (
 opt.ret _ (g.1,(g.2.1,(g.2.2.1,(g.2.2.2.1,(i.1,(i.2.1,(g.2.2.2.2.1,(g.2.2.2.2.2.1,(g.2.2.2.2.2.2.1,(g.2.2.2.2.2.2.2.1,(g.2.2.2.2.2.2.2.2.1,(Bool.true,()))))))))))))) (
 opt.ask _ (p.cmp .lss i.2.1 (1:Int)) (
 opt.ret _ (g.1,(g.2.1,(g.2.2.1,(g.2.2.2.1,(i.1,(i.2.1,(g.2.2.2.2.1,(g.2.2.2.2.2.1,(g.2.2.2.2.2.2.1,(g.2.2.2.2.2.2.2.1,(g.2.2.2.2.2.2.2.2.1,(Bool.true,()))))))))))))) (
 opt.ret _ (g.1,(g.2.1,(g.2.2.1,(g.2.2.2.1,(i.1,(i.2.1,(g.2.2.2.2.1,(g.2.2.2.2.2.1,(g.2.2.2.2.2.2.1,(g.2.2.2.2.2.2.2.1,(g.2.2.2.2.2.2.2.2.1,((bif (bif (p.bEq (bif (p.cmp .eql i.1 (0:Int)) then (bif (p.cmp .eql i.2.1 (1:Int)) then Bool.true else Bool.false) else Bool.false) (p.cmp .eql k.2.2.2.1 (21:Int))) then Bool.true else Bool.false) then Bool.false else Bool.true),()))))))))))))))))))) fun l=>
 opt.ask _ l.2.2.2.2.2.2.2.2.2.2.2.1 (
 opt.ret _ (Bool.false,())) (
 opt.bnd T6 _ (G33 p (l.1,(l.2.1,(l.2.2.2.2.2.2.1,(l.2.2.2.2.2.2.2.1,()))))) fun m=>
 opt.bnd T6 _ (G33 p (l.2.2.1,(l.2.2.2.1,(l.2.2.2.2.2.2.1,(l.2.2.2.2.2.2.2.2.1,()))))) fun n=>
 opt.bnd T4 _ (G34 p ((p.ar .add .i64 (p.ar .mul .i64 (p.ar .sub .i64 m.1 n.1) (p.ar .sub .i64 m.1 n.1)) (p.ar .mul .i64 (p.ar .sub .i64 m.2.1 n.2.1) (p.ar .sub .i64 m.2.1 n.2.1))),((p.ar .mul .i64 m.2.2.1 m.2.2.1),()))) fun o=>
 opt.bnd T2 _ (G35 p (o.1,(o.2.1,(l.2.2.2.2.1,(l.2.2.2.2.2.1,()))))) fun q=>
 opt.ask _ q.1 (
 opt.ret _ (Bool.false,())) (
 opt.bnd ((LD×(LD×(LD×T26)))) _ (
 z4n (v5r p) ([],(l.1,(l.2.1,(l.2.2.1,(l.2.2.2.1,(l.2.2.2.2.1,(l.2.2.2.2.2.1,(l.2.1,(l.2.2.2.2.2.2.2.2.2.1,(l.2.2.2.2.2.2.2.2.2.2.1,((0:Int),())))))))))))) fun r=>
 opt.bnd ((LD×(LD×(LD×(LD×T11))))) _ (
 opt.run ((LD×(LD×(LD×(LD×T11))))) (
 opt.bnd ((LD×(LD×(LD×T87)))) _ (
 opt.run ((LD×(LD×(LD×T87)))) (
 opt.need _ (p.and (p.and (p.leN (p.add 0 (p.len r.1)) (p.len r.1)) (p.and Bool.true Bool.true)) Bool.true)<|
 opt.bnd T2 _ (G14 p ((p.cut r.1 0 (p.len r.1)),(r.2.2.2.2.2.1,()))) fun t=>
 opt.ask _ (bif t.1 then Bool.false else Bool.true) (
 opt.need _ (p.and (p.and (p.leN (p.add 0 (p.len r.1)) (p.len r.1)) (p.and Bool.true Bool.true)) Bool.true)<|
 opt.bnd T0 _ (G19 p ((p.cut r.1 0 (p.len r.1)),(r.2.2.2.2.2.1,()))) fun u=>
 opt.need _ (p.eqN 0 0)<|
 opt.need _ (p.eqN (p.len r.1) (p.len r.1))<|
 opt.ret _ (r.1,(r.2.1,(r.2.2.1,(r.2.2.2.1,(r.2.2.2.2.1,(r.2.2.2.2.2.1,((p.ar .add .i64 (p.ar .mul .i64 (p.cvt .i64 r.2.2.2.2.2.2.1) (p.cvt .i64 r.2.2.2.2.2.2.1)) (p.ar .mul .i64 (p.cvt .i64 r.2.2.2.2.2.2.2.1) (p.cvt .i64 r.2.2.2.2.2.2.2.1))),((1:Int),((p.cmp .eql u.1 (0:Int)),())))))))))) (
 opt.need _ (p.eqN 0 0)<|
 opt.need _ (p.eqN (p.len r.1) (p.len r.1))<|
 opt.ret _ (r.1,(r.2.1,(r.2.2.1,(r.2.2.2.1,(r.2.2.2.2.1,(r.2.2.2.2.2.1,((p.ar .add .i64 (p.ar .mul .i64 (p.cvt .i64 r.2.2.2.2.2.2.1) (p.cvt .i64 r.2.2.2.2.2.2.1)) (p.ar .mul .i64 (p.cvt .i64 r.2.2.2.2.2.2.2.1) (p.cvt .i64 r.2.2.2.2.2.2.2.1))),((1:Int),(Bool.false,())))))))))))) fun v=>
 opt.ask _ (bif v.2.2.2.2.2.2.2.2.1 then Bool.false else Bool.true) (
 opt.need _ (p.eqN 0 0)<|
 opt.need _ (p.eqN (p.len v.1) (p.len v.1))<|
 opt.ret _ (v.1,(v.2.1,(v.2.2.1,(v.2.2.2.2.2.1,(Bool.true,())))))) (
 opt.bnd T2 _ (G35 p (v.2.2.2.2.2.2.1,(v.2.2.2.2.2.2.2.1,(v.2.2.2.1,(v.2.2.2.2.1,()))))) fun w=>
 opt.need _ (p.eqN 0 0)<|
 opt.need _ (p.eqN (p.len v.1) (p.len v.1))<|
 opt.ret _ (v.1,(v.2.1,(v.2.2.1,(v.2.2.2.2.2.1,((bif w.1 then Bool.false else Bool.true),())))))))) fun z=>
 opt.ask _ z.2.2.2.2.1 (
 opt.bnd T2 _ (G15 p ()) fun a1=>
 opt.ret _ (a1.1,())) (
 opt.need _ (p.and (p.and (p.leN (p.add 0 (p.len z.1)) (p.len z.1)) (p.and Bool.true Bool.true)) (p.and Bool.true Bool.true))<|
 opt.bnd T8 _ (G32 p ((p.cut z.1 0 (p.len z.1)),(z.2.2.2.1,(z.2.1,(z.2.2.1,()))))) fun b1=>
 opt.bnd T2 _ (
 opt.run T2 (
 opt.ask _ (p.cmp .eql b1.2.2.2.1 (0:Int)) (
 opt.need _ (p.and (p.and (p.leN (p.add 0 (p.len z.1)) (p.len z.1)) (p.and Bool.true Bool.true)) (p.and Bool.true (p.and Bool.true Bool.true)))<|
 opt.bnd T0 _ (G36 p ((p.cut z.1 0 (p.len z.1)),(z.2.2.2.1,(z.2.1,(z.2.2.1,(b1.1,(b1.2.1,(b1.2.2.1,())))))))) fun c1=>
 opt.ask _ (p.cmp .eql c1.1 (0:Int)) (
 opt.bnd T2 _ (G15 p ()) fun d1=>
 opt.ret _ (d1.1,())) (
 opt.ret _ (Bool.false,()))) (
 opt.ret _ (Bool.false,())))) fun e1=>
 opt.ret _ (e1.1,())))))
theorem ok7:CtrOk PG ctr7 (G7 std):=okF (a:=an7) (l:=la7) (gC u1p (gC ok31 (gC ok35 (gC ok34 (gC ok33 (gC u1q (gC u1r (gC ok15 (gC u1s (gC ok14 (gN))))))))))) (by kernel_rfl) fun _ _=>by kernel_rfl
end Go.Am
end
section
namespace Go.Am
open M06
theorem x1w {a b:List Pt} (x:Pt):x∈y30 b a↔x∈y30 a b:=by
 unfold y30
 rw [List.mem_append,List.mem_append]
 exact ⟨fun h=>h.symm,fun h=>h.symm⟩
theorem x59 {a b:List Pt} {x:Pt} {k:Int} (h:InH (dif a b) x k):InH (dif b a) (ng x) k:=fun d=>by
 obtain ⟨z,hz,h0⟩:=h (ng d)
 obtain ⟨p,hp,q,hq,rfl⟩:=z13.1 hz
 refine ⟨sb q p,z13.2 ⟨q,hq,p,hp,rfl⟩,?_⟩
 have e:crs d (sb (ng x) (ml (sb q p) k))=crs (ng d) (sb x (ml (sb p q) k)):=by simp only [crs,sb,ng,ml]; grind
 omega
theorem z92 {l:List Pt} {hs:List (List Pt)} (hf:z49 l hs) {m:List Pt} {ks:List (List Pt)} (hk:z49 m ks):z35 l hs m ks=true↔InH (dif (z1g (z1i l hs)) (z1g (z1i m ks))) (0,0) 1:=by
 have hD:=z2f (y7j (z4g hf.allNe) (z4g hk.allNe))
 exact (z9a hD (by omega)).trans (z47 hD (by omega)).symm
theorem y7o {l:List Pt} {hs:List (List Pt)} (hf:z49 l hs) {m:List Pt} {ks:List (List Pt)} (hk:z49 m ks):z35 m ks l hs=z35 l hs m ks:=by
 have e:ng (0,0)=((0,0):Pt):=rfl
 have h1:=z92 hf hk
 have h2:=z92 hk hf
 have h3:InH (dif (z1g (z1i l hs)) (z1g (z1i m ks))) (0,0) 1↔InH (dif (z1g (z1i m ks)) (z1g (z1i l hs))) (0,0) 1:=⟨fun h=>by have:=x59 h; rwa [e] at this,fun h=>by have:=x59 h; rwa [e] at this⟩
 cases hc:z35 l hs m ks with
 |true=>exact h2.2 (h3.1 (h1.1 hc))
 |false=>
  cases hc':z35 m ks l hs with
  |false=>rfl
  |true=>have:=h1.2 (h3.2 (h2.1 hc')); rw [hc] at this; cases this
structure u2h (l:List Pt) (hs:List (List Pt)) (m:List Pt) (ks:List (List Pt)) (v:Pt):Prop where
 num:0≤v.1
 frc:Frc v
 zero:v=(0,1)↔z35 l hs m ks=true
 low:∀ (Z:Pt) (k:Int),0<k→InH (dif (z1g (z1i l hs)) (z1g (z1i m ks))) Z k→v.1*(k*k)≤dt Z Z*v.2
theorem w2z:Frc (0,1):=⟨0,1,by omega,by omega,by omega,rfl⟩
theorem w85 {l:List Pt} {hs:List (List Pt)} (hf:z49 l hs) {m:List Pt} {ks:List (List Pt)} (hk:z49 m ks):
  ∃ v:Pt,G25 std (z0d l,z1s hs,z0d m,z1s ks,())=some (v.1,v.2,0,())∧G25 std (z0d m,z1s ks,z0d l,z1s hs,())=some (v.1,v.2,0,())∧u2h l hs m ks v:=by
 cases hc:z35 l hs m ks with
 |true=>
  refine ⟨(0,1),x20 hf hk hc,x20 hk hf (by rw [y7o hf hk,hc]),by simp,w2z,by simp [hc],fun Z k hk0 hZ=>?_⟩
  have:=z12 Z
  simp only; omega
 |false=>
  obtain ⟨v,hv,h1⟩:=w7h hf hk hc
  obtain ⟨w,hw,h2⟩:=w7h hk hf (by rw [y7o hf hk,hc])
  have he:w=v:=w4b (y1q hk.cyc hf.cyc hk.cbox hf.cbox) (y1q hf.cyc hk.cyc hf.cbox hk.cbox) (fun x hx=>⟨x,(x1w x).1 hx,Int.le_refl _⟩) (fun x hx=>⟨x,(x1w x).2 hx,Int.le_refl _⟩) hw hv
  subst he
  have hfr:=y1q hf.cyc hk.cyc hf.cbox hk.cbox w hv.1
  have hD:=z2f (y7j (z4g hf.allNe) (z4g hk.allNe))
  obtain ⟨Z,k,hk0,hZ,hat⟩:=w86 (z1w hf.cyc) (z1w hk.cyc) hv.1
  obtain ⟨n,d,x1,x2,x3,x4⟩:=hfr.nat
  refine ⟨w,h1,h2,by rw [x4]; simp only; omega,hfr,?_,fun X q hq hX=>?_⟩
  ·rw [hc]
   constructor
   ·intro h
    exfalso
    rw [h] at hat
    have hz:dt Z Z=0:=by simp only at hat; omega
    have hZ0:Z=(0,0):=by
     refine Classical.byContradiction fun hn=>?_
     have:=z0x hn; omega
    subst hZ0
    have e:((0,0):Pt)=ml (0,0) k:=by simp [ml]
    have hZ':InH (dif (z1g (z1i l hs)) (z1g (z1i m ks))) (ml (0,0) k) (k*1):=by rw [←e,Int.mul_one]; exact hZ
    have:=(z92 hf hk).2 ((w0f hk0).1 hZ')
    rw [hc] at this; cases this
   ·intro h; cases h
  ·obtain ⟨y,y1,y2⟩:=w74 (z1w hD) (w8f hf hk hc) hq ((z47 hD (by omega)).1 hX)
   obtain ⟨x,z1,z2,z3⟩:=w3q (z1w hf.cyc) (z1w hk.cyc) y1
   have hxf:=y1q hf.cyc hk.cyc hf.cbox hk.cbox x z1
   have hbx:=w9u hf.cbox hk.cbox
   have hyf:=w3n (fun x hx=>hbx x (z4z hD x hx)) y y1
   have h3:=z8i hfr.den hxf.den hyf.den (hv.2 x z1) z3
   have h4:=Int.mul_le_mul_of_nonneg_right h3 (Int.le_of_lt (Int.mul_pos hq hq))
   have h5:=Int.mul_le_mul_of_nonneg_right y2 (Int.le_of_lt hfr.den)
   have e1:w.1*y.2*(q*q)=(w.1*(q*q))*y.2:=by grind
   have e2:y.1*w.2*(q*q)=y.1*(q*q)*w.2:=by grind
   have e3:dt X X*y.2*w.2=(dt X X*w.2)*y.2:=by grind
   rw [e1,e2] at h4
   rw [e3] at h5
   exact Int.le_of_mul_le_mul_right (Int.le_trans h4 h5) hyf.den
theorem w6r {a b:List Pt} {p q:Pt} {k:Int} (ha:InH a p k) (hb:InH b q k):InH (dif a b) (sb p q) k:=fun d=>by
 obtain ⟨x,hx,h1⟩:=ha d
 obtain ⟨y,hy,h2⟩:=hb (ng d)
 refine ⟨sb x y,z13.2 ⟨x,hx,y,hy,rfl⟩,?_⟩
 have e:crs d (sb (sb p q) (ml (sb x y) k))=crs d (sb p (ml x k))+crs (ng d) (sb q (ml y k)):=by simp only [crs,sb,ng,ml]; grind
 omega
theorem x6v (w:Pt) (A B:List Pt):z20 (A.map (ad w)) B=(z20 A B).map (ad w):=by
 unfold z20
 induction A with
 |nil=>rfl
 |cons x A ih=>
  rw [List.map_cons,List.flatMap_cons,List.flatMap_cons,List.map_append,ih,List.map_map]
  congr 1
  refine List.map_congr_left fun y _=>?_
  simp only [Function.comp,ad]
  exact Prod.ext (by simp only; omega) (by simp only; omega)
theorem x2w (w:Pt):∀ (hs:List (List Pt)) (l:List Pt),z1i (l.map (ad w)) hs=(z1i l hs).map (ad w)
 |[],l=>rfl
 |h::hs,l=>by
  show z1i (z20 (l.map (ad w)) h) hs=(z1i (z20 l h) hs).map (ad w)
  rw [x6v,x2w w hs]
theorem w4f {S:List Pt} {w X:Pt} {k:Int} (h:InH (S.map (ad w)) X k):InH S (sb X (ml w k)) k:=fun d=>by
 obtain ⟨x,hx,h0⟩:=h d
 obtain ⟨y,hy,rfl⟩:=List.mem_map.1 hx
 refine ⟨y,hy,?_⟩
 have e:crs d (sb (sb X (ml w k)) (ml y k))=crs d (sb X (ml (ad w y) k)):=by simp only [crs,sb,ad,ml]; grind
 omega
theorem x3u {l:List Pt} {hs:List (List Pt)} (hf:z49 l hs) {m:List Pt} {ks:List (List Pt)} (hk:z49 m ks) {v w:Pt} (hv:u2h l hs m ks v) (hm:z49 (l.map (ad w)) hs) (hlt:dt w w*v.2<v.1):z35 (l.map (ad w)) hs m ks=false:=by
 cases hc:z35 (l.map (ad w)) hs m ks with
 |false=>rfl
 |true=>
  exfalso
  obtain ⟨X,k,k0,h1,h2⟩:=v5j (z1w hm.cyc) (z1w hk.cyc) ((z92 hm hk).1 hc)
  have h3:=(z47 hm.cyc (by omega)).2 h1
  rw [x2w] at h3
  have h4:=(z47 hf.cyc (by omega)).1 (w4f h3)
  have h5:=hv.low _ k k0 (w6r h4 h2)
  have e:dt (sb (sb X (ml w k)) X) (sb (sb X (ml w k)) X)=dt w w*(k*k):=by simp only [dt,sb,ml]; grind
  rw [e] at h5
  have e2:dt w w*(k*k)*v.2=(dt w w*v.2)*(k*k):=by grind
  rw [e2] at h5
  have:=Int.le_of_mul_le_mul_right h5 (Int.mul_pos k0 k0)
  omega
theorem x95 {l:List Pt} {x y:Int} (hl:l.length≤1000) (hb:∀ p∈l,z0m 0 1000 p) (hx: -32768≤x∧x≤32767) (hy: -32768≤y∧y≤32767) (L2 L3 L4 L7:List (List D)) (n5 n6:Int):
  z4n (v5r std) ([],z0d l,L2,L3,L4,n5,n6,L7,x,y,0,())=some (z0d (l.map (ad (x,y))),L3,L4,n5,n6,L7,x,y,()):=by
 have key:=z3k (b:=v5r std) (fun (j:Nat)=>(z0d ((l.take j).map (ad (x,y))),z0d l,L2,L3,L4,n5,n6,L7,x,y,(j:Int),())) (fun j=>j≤l.length) (fun j=>l.length - j) (fun _=>(z0d (l.map (ad (x,y))),L3,L4,n5,n6,L7,x,y,())) (fun j hj=>by
  by_cases hlt:j<l.length
  ·left
   obtain ⟨p,hp⟩:=z0l hlt
   have gp:=z0w hp
   obtain ⟨b1,b2,b3,b4⟩:=hb p (List.mem_of_getElem? hp)
   have c1:(j:Int)<(l.length:Int):=by omega
   have c2:(j:Int)≥0:=by omega
   have hw:=z04 (i:=j) (by omega)
   have w1:IntKind.i64.wrap x=x:=z00 _ (by omega) (by omega)
   have w2:IntKind.i64.wrap y=y:=z00 _ (by omega) (by omega)
   have w3:IntKind.i64.wrap (p.1+x)=(ad (x,y) p).1:=by rw [z00 _ (by omega) (by omega)]; simp only [ad]; omega
   have w4:IntKind.i64.wrap (p.2+y)=(ad (x,y) p).2:=by rw [z00 _ (by omega) (by omega)]; simp only [ad]; omega
   have htl:(l.take j).length=j:=by rw [List.length_take]; omega
   have htk:(z0d ((l.take j).map (ad (x,y)))).take j=z0d ((l.take j).map (ad (x,y))):=by rw [List.take_of_length_le (by rw [z0c,List.length_map]; omega)]
   have hap:z0d ((l.take j).map (ad (x,y)))++[eP (ad (x,y) p)]=z0d ((l.take (j+1)).map (ad (x,y))):=by rw [z0q hp]; simp [z0d]
   have htl':(l.take (j+1)).length=j+1:=by rw [List.length_take]; omega
   have hl1:j+1≤1000000:=by omega
   refine ⟨j+1,?_,by omega,by omega,rfl⟩
   simp only [v5r,G31,z0u,z0v,z0g,z0z,z0y,z1f,z0i,z0c,z0b,hw,c1,c2,gp,w1,w2,w3,w4,htl,htk,hap,htl',hl1,List.length_map,List.drop_zero,List.take_succ_cons,List.take_zero,Nat.le_refl]
  ·right
   have:j=l.length:=by omega
   subst this
   have hn:¬ ((l.length:Int)<(l.length:Int)):=by omega
   simp only [v5r,z0u,z0v,z0c,hn,List.take_length]) 0 (Nat.zero_le _)
 exact key
theorem x1t {n:Int} (h:(Lit.int IntKind.i16 n).wf=true): -32768≤n∧n≤32767:=by
 simp [Lit.wf,IntKind.min,IntKind.max,IntKind.signed,IntKind.bits] at h; omega
theorem w8c {n:Int} (h0:0≤n) (h1:n≤1000000000000):Frc (n,1):=by
 refine ⟨n.toNat,1,by omega,by omega,by omega,?_⟩
 unfold fr
 rw [Nat.gcd_one_right,Nat.div_one,Nat.div_one,Int.toNat_of_nonneg h0]; rfl
theorem Frc.num {x:Pt} (h:Frc x):0≤x.1:=by
 obtain ⟨n,d,_,_,_,rfl⟩:=h.nat
 simp only; omega
theorem u1b (l:List Pt) (hs:List (List Pt)) (m:List Pt) (ks:List (List Pt)) (n:Int) (hn:(Lit.int IntKind.u8 n).wf=true) (bs:List Int) (hbs:∀ b∈bs,(Lit.int IntKind.u8 b).wf=true) (cs:List Int) (hcs:∀ b∈cs,(Lit.int IntKind.u8 b).wf=true)
  (x:Int) (hx:(Lit.int IntKind.i16 x).wf=true) (y:Int) (hy:(Lit.int IntKind.i16 y).wf=true):
  G7 std (z0d l,z1s hs,z0d m,z1s ks,n,y1v bs,y1v cs,x,y,())=some (true,()):=by
 unfold G7
 by_cases g1:y0f l hs
 ·simp only [z0u,z0v,z9n,g1,y0h]
 by_cases c1:z80 l hs=0
 case neg=>simp only [z0u,z0v,z9n,z8y,g1,c1,y0h]
 by_cases g2:y0f m ks
 ·simp only [z0u,z0v,z9n,z8y,g1,g2,c1,y0h]
 by_cases c2:z80 m ks=0
 case neg=>simp only [z0u,z0v,z9n,z8y,g1,g2,c1,c2,y0h]
 by_cases k1:(bs.length:Int)>50
 ·simp only [z0u,z0v,z9n,z8y,g1,g2,c1,c2,z5i,k1,y0h]
 by_cases k2:(cs.length:Int)>50
 ·simp only [z0u,z0v,z9n,z8y,g1,g2,c1,c2,z5i,k1,k2,y0h]
 have hf:=z3p.1 c1
 have hk:=z3p.1 c2
 obtain ⟨v,h25,h25',gv⟩:=w85 hf hk
 have h32:=w7g l hs m ks
 have pv:=x49 hf hk
 obtain ⟨us,h33,u2,u3⟩:=w7f hf hn hbs (by omega)
 obtain ⟨ws,h33',w2,w3⟩:=w7f hk hn hcs (by omega)
 have hp:=x3p hn
 have lu:=x5o hf.cyc u3
 have lw:=x5o hk.cyc w3
 rw [u2] at lu
 rw [w2] at lw
 have bu:=y9q hf.boxA (ks:=us) (by omega) u3
 have bw:=y9q hk.boxA (ks:=ws) (by omega) w3
 have hlow:=gv.low _ (z5o n) (by omega) (w6r lu lw)
 generalize hU:z1p us=U at*
 generalize hW:z1p ws=W at*
 generalize z5o n=q at*
 have hd1:IntKind.i64.wrap (U.1 - W.1)=(sb U W).1:=by simp only [z0m] at bu bw; exact z00 _ (by omega) (by omega)
 have hd2:IntKind.i64.wrap (U.2 - W.2)=(sb U W).2:=by simp only [z0m] at bu bw; exact z00 _ (by omega) (by omega)
 have hdb:z0m (-200000) 200000 (sb U W):=by simp only [z0m,sb] at bu bw⊢; omega
 have m1:=z4j (A:=200000) (B:=200000) (by omega) hdb.1 hdb.2.1 hdb.1 hdb.2.1
 have m2:=z4j (A:=200000) (B:=200000) (by omega) hdb.2.2.1 hdb.2.2.2 hdb.2.2.1 hdb.2.2.2
 have m3:=z4j (a:=q) (b:=q) (A:=20) (B:=20) (by omega) (by omega) (by omega) (by omega) (by omega)
 have hqq:0<q*q:=Int.mul_pos (by omega) (by omega)
 have e1:IntKind.i64.wrap ((sb U W).1*(sb U W).1)=(sb U W).1*(sb U W).1:=z00 _ (by omega) (by omega)
 have e2:IntKind.i64.wrap ((sb U W).2*(sb U W).2)=(sb U W).2*(sb U W).2:=z00 _ (by omega) (by omega)
 have e3:IntKind.i64.wrap ((sb U W).1*(sb U W).1+(sb U W).2*(sb U W).2)=dt (sb U W) (sb U W):=z00 _ (by omega) (by omega)
 have e4:IntKind.i64.wrap (q*q)=q*q:=z00 _ (by omega) (by omega)
 have hdn:=z12 (sb U W)
 have hdu:dt (sb U W) (sb U W)≤80000000000:=by simp only [dt]; omega
 have h34:=v0w hdn (by omega) hqq (by omega)
 have hff:Frc (fr (dt (sb U W) (sb U W)).toNat (q*q).toNat):=⟨_,_,by omega,by omega,by omega,rfl⟩
 have h35:=w2r hff gv.frc
 have hnl:¬ (fr (dt (sb U W) (sb U W)).toNat (q*q).toNat).1*v.2<v.1*(fr (dt (sb U W) (sb U W)).toNat (q*q).toNat).2:=by
  have hat:=(w0r (n:=(dt (sb U W) (sb U W)).toNat) (d:=(q*q).toNat) (A:=q*q) (B:=dt (sb U W) (sb U W)) (by omega)).2 (by rw [Int.toNat_of_nonneg hdn,Int.toNat_of_nonneg (by omega)])
  have hfd:=hff.den
  generalize fr (dt (sb U W) (sb U W)).toNat (q*q).toNat=z at*
  intro hlt
  have h5:=Int.mul_le_mul_of_nonneg_right hlow (Int.le_of_lt hfd)
  have e5:dt (sb U W) (sb U W)*v.2*z.2=(dt (sb U W) (sb U W)*z.2)*v.2:=by grind
  have e6:v.1*(q*q)*z.2=(v.1*z.2)*(q*q):=by grind
  have e7:z.1*(q*q)*v.2=(z.1*v.2)*(q*q):=by grind
  rw [e5, ←hat,e6,e7] at h5
  have:=Int.le_of_mul_le_mul_right h5 hqq
  omega
 rw [decide_eq_false hnl] at h35
 have rx:=x1t hx
 have ry:=x1t hy
 have hml:=x95 (l:=l) (by have:=hf.many.2; omega) hf.box rx ry (z1s hs) (z0d m) (z1s ks) (z1s hs) v.1 v.2
 have m5:=z4j (a:=x) (b:=x) (A:=32768) (B:=32768) (by omega) (by omega) (by omega) (by omega) (by omega)
 have m6:=z4j (a:=y) (b:=y) (A:=32768) (B:=32768) (by omega) (by omega) (by omega) (by omega) (by omega)
 have n5:=z2e x
 have n6:=z2e y
 have y1:IntKind.i64.wrap x=x:=z00 _ (by omega) (by omega)
 have y2:IntKind.i64.wrap y=y:=z00 _ (by omega) (by omega)
 have y3:IntKind.i64.wrap (x*x)=x*x:=z00 _ (by omega) (by omega)
 have y4:IntKind.i64.wrap (y*y)=y*y:=z00 _ (by omega) (by omega)
 have y5:IntKind.i64.wrap (x*x+y*y)=x*x+y*y:=z00 _ (by omega) (by omega)
 have h35w:G35 std (x*x+y*y,1,v.1,v.2,())=_:=w2r (w8c (show 0≤x*x+y*y by omega) (by omega)) gv.frc
 have htk:(z0d (l.map (ad (x,y)))).take l.length=z0d (l.map (ad (x,y))):=List.take_of_length_le (by rw [z0c,List.length_map]; omega)
 have h14:=z9n (l.map (ad (x,y))) hs
 have h19:=z8y (l.map (ad (x,y))) hs
 have h32a:=w7g (l.map (ad (x,y))) hs m ks
 have s1:¬ v.1<0:=by have:=gv.num; omega
 have s2:¬ v.2<1:=by have:=gv.frc.den; omega
 have hG34:G34 std (dt (sb U W) (sb U W),q*q,())=_:=h34
 have hG35:G35 std ((fr (dt (sb U W) (sb U W)).toNat (q*q).toNat).1,(fr (dt (sb U W) (sb U W)).toNat (q*q).toNat).2,v.1,v.2,())=some (false,()):=h35
 have hbe:∀ a b:Bool,std.bEq a b=(a==b):=fun _ _=>rfl
 have s3:(if (if v.1=v.1 then if v.2=v.2 then true else false else false)=true then true else false)=true:=by simp
 have hzero:((if v.1=0 then if v.2=1 then true else false else false)==decide ((x1b l hs m ks).2=21))=true:=by
  rw [pv]
  cases hc:z35 l hs m ks with
  |true=>
   have:=gv.zero.2 hc
   rw [this]; rfl
  |false=>
   have hn1:¬ (v.1=0∧v.2=1):=fun h=>by
    have:=gv.zero.1 (Prod.ext h.1 h.2)
    rw [hc] at this; cases this
   by_cases z1:v.1=0
   ·rw [if_pos z1,if_neg (fun z2=>hn1 ⟨z1,z2⟩)]; rfl
   ·rw [if_neg z1]; rfl
 by_cases g3:y0f (l.map (ad (x,y))) hs
 ·simp only [z0u,z0v,z9n,z8y,g1,g2,c1,c2,z5i,k1,k2,y0h,h25,h25',h32,h33,h33',hd1,hd2,e1,e2,e3,e4,z0b,z0k,z08,hG34,hG35,hml,y1,y2,y3,y4,y5,z0c,htk,List.drop_zero,Nat.le_refl,s1,s2,s3,hbe,hzero,not_true,not_false_eq_true,g3]
 by_cases c3:z80 (l.map (ad (x,y))) hs=0
 case neg=>simp only [z0u,z0v,z9n,z8y,g1,g2,c1,c2,z5i,k1,k2,y0h,h25,h25',h32,h33,h33',hd1,hd2,e1,e2,e3,e4,z0b,z0k,z08,hG34,hG35,hml,y1,y2,y3,y4,y5,z0c,htk,List.drop_zero,Nat.le_refl,s1,s2,s3,hbe,hzero,not_true,not_false_eq_true,g3,c3]
 by_cases hlt:(x*x+y*y)*v.2<v.1*1
 case neg=>
  rw [decide_eq_false hlt] at h35w
  simp only [z0u,z0v,z9n,z8y,g1,g2,c1,c2,z5i,k1,k2,y0h,h25,h25',h32,h33,h33',hd1,hd2,e1,e2,e3,e4,z0b,z0k,z08,hG34,hG35,hml,y1,y2,y3,y4,y5,z0c,htk,List.drop_zero,Nat.le_refl,s1,s2,s3,hbe,hzero,not_true,not_false_eq_true,g3,c3,h35w]
 rw [decide_eq_true hlt] at h35w
 have hm:=z3p.1 c3
 have hap:=x3u hf hk gv (w:=(x,y)) hm (by simp only [dt]; omega)
 have pa:=x49 hm hk
 rw [hap,if_neg (by simp)] at pa
 rw [pa] at h32a
 simp only at h32a
 have h36:=v6n (l.map (ad (x,y))) hs m ks (z3u (z1g (z1i (l.map (ad (x,y))) hs)) (z1g (z1i m ks))).1.1 (z3u (z1g (z1i (l.map (ad (x,y))) hs)) (z1g (z1i m ks))).1.2.1 (z3u (z1g (z1i (l.map (ad (x,y))) hs)) (z1g (z1i m ks))).1.2.2
 rw [w5d hm hk hap] at h36
 simp only [z0u,z0v,z9n,z8y,g1,g2,c1,c2,z5i,k1,k2,y0h,h25,h25',h32,h33,h33',hd1,hd2,e1,e2,e3,e4,z0b,z0k,z08,hG34,hG35,hml,y1,y2,y3,y4,y5,z0c,htk,List.drop_zero,Nat.le_refl,s1,s2,s3,hbe,hzero,not_true,not_false_eq_true,g3,c3,h35w,h32a,h36]
end Go.Am
end
section
namespace Go.Proofs.Ytolfgnbldofcjaa
open Go.ChangeShapes Go.WideShapes Go.ChangeAt Go.RowKit Go.Am
theorem v7j {e0:List (List D)} {e1:List (List D)} {e2:List (List D)} {e3:List (List D)} {e4:Int} {e5:List (List D)} {e6:List (List D)} {e7:Int} {e8:Int} (h:G7 std (e0,e1,e2,e3,e4,e5,e6,e7,e8,())=some (true,())):∃ h',z97 Try.prog 7 (toA [.agg [.list false 2 e0, .list false 1 e1], .agg [.list false 2 e2, .list false 1 e3], .int .u8 e4, .list false 1 e5, .list false 1 e6, .int .i16 e7, .int .i16 e8]) [] (.d (.bool true)) h':=by
 have:=(ok7.2 (e0,e1,e2,e3,e4,e5,e6,e7,e8,()) (true,()) h).2
 exact ⟨_,this⟩
theorem shp7:w7y Try.prog 6 Try.f7.params.toList=true:=by kernel_rfl
theorem rt7:Try.f7.resultTypes=#[Try.f7.resultTypes.getD 0 0]:=by kernel_rfl
theorem rb7:Try.prog.underlying (Try.f7.resultTypes.getD 0 0)=some .bool:=by kernel_rfl
theorem v5n:Try.f7.params.toList.all (fun t=>decide (t<Try.prog.types.size))=true:=by kernel_rfl
set_option maxRecDepth 100000 in
theorem w10 (H:Type) (enc:TypeId×Value→H) (W:World) (base:Nat) (args:Array Value) (ds gs:List (DataW H)) (before:List MemPlace)
  (hval:∀ (j:Nat) t v,Try.f7.params[j]?=some t→args[j]?=some v→Value.okWide Try.prog W .any base t v)
  (hW:DataW.Whole enc Try.prog Try.f7.params.toList Rows.signalFarSpec.vars false W args.toList ds gs before):
  Calls Try.prog 7 args W fun e W'=>∃ v,e= .returned v∧Rows.signalFarSpec.post enc Try.prog Try.f7 false true false false W args v W':=by
 have hW':=hW
 obtain ⟨p,q,hA0,hV,rfl,hfz,hnd⟩:=hW
 have hA:DataW.TrodAll enc Try.prog W 0 (fun _=>true) true Try.f7.params.toList args.toList ds p:=hA0
 obtain ⟨xs,h1,h2,h3⟩:=w2f (O:=fun _=>False) (fun _ h=>h) shp7 (w0g hval) hA
 have hd:∃ x0 x1 x2 x3 x4 x5 x6,xs=[x0,x1,x2,x3,x4,x5,x6]∧(∃ ds,x0= .agg ds∧DKs [.list [.int .i64, .int .i64], .list [.list [.int .i64, .int .i64]]] ds)∧(∃ ds,x1= .agg ds∧DKs [.list [.int .i64, .int .i64], .list [.list [.int .i64, .int .i64]]] ds)∧(DK (.int .u8) x2)∧(DK (.list [.int .u8]) x3)∧(DK (.list [.int .u8]) x4)∧(DK (.int .i16) x5)∧(DK (.int .i16) x6):=by
  match xs,h1 with
  |[x0,x1,x2,x3,x4,x5,x6],h1=>exact ⟨x0,x1,x2,x3,x4,x5,x6,rfl,h1.1,h1.2.1,h1.2.2.1,h1.2.2.2.1,h1.2.2.2.2.1,h1.2.2.2.2.2.1,h1.2.2.2.2.2.2.1⟩
 obtain ⟨x0,x1,x2,x3,x4,x5,x6,rfl,k0,k1,k2,k3,k4,k5,k6⟩:=hd
 obtain ⟨l0,hz0,rfl⟩:=x5x k0
 obtain ⟨l1,hz1,rfl⟩:=x5x k1
 obtain ⟨n2,rfl,wf2⟩:=v1d k2
 obtain ⟨l3,rfl,wf3⟩:=x6m k3
 obtain ⟨l4,rfl,wf4⟩:=x6m k4
 obtain ⟨n5,rfl,wf5⟩:=w6m k5
 obtain ⟨n6,rfl,wf6⟩:=w6m k6
 obtain ⟨h',hr⟩:=v7j (u1b l0 hz0 l1 hz1 n2 wf2 l3 wf3 l4 wf4 n5 wf5 n6 wf6)
 exact (y9m hr h2 h3).mono fun e W' ⟨he,hs⟩=>⟨_,he,w37 laid rowed sized v5n rfl rt7 rb7 (fun ds hd=>by
  match ds,hd with
  |[d0,d1,d2,d3,d4,d5,d6],_=>exact ⟨rfl,rfl,rfl⟩) hW' hs⟩
set_option maxRecDepth 100000 in
theorem w8t (os:Os) (started:os.Started) (H:Type) (enc:TypeId×Value→H):
  ReturnsInHanded {} Try.checked os 7 .any (Rows.signalFarSpec.pre6 enc Try.prog Try.f7 Rows.signalFarRow.domain false) (Rows.signalFarSpec.post enc Try.prog Try.f7 false true false false):=by
 refine returnsInHanded_of_change (C:=Try.checked) own started (by kernel_rfl) Try.func7
  (ChangeSpec.witness6 (enc:=enc) (C:=Try.checked) false ⟨#[],#[.agg #[.slice none 0 0, .slice none 0 0], .agg #[.slice none 0 0, .slice none 0 0], .int .u8 0, .slice none 0 0, .slice none 0 0, .int .i16 0, .int .i16 0],[]⟩ 8 (by kernel_rfl) (by kernel_rfl) (by kernel_rfl) (by kernel_rfl)) ?_
 intro W base args ds gs before hval hW _ _
 exact w10 H enc W base args ds gs before hval hW
set_option maxRecDepth 100000 in
theorem y55:Rows.signalFarRow.holds Try.pinned (OpenSpec.ofChange Rows.signalFarSpec):=
 OpenClaim.holds_of_wide 7 Try.f7 rfl rfl rfl rfl rfl rfl rfl ⟨rfl,rfl,rfl,rfl,rfl⟩ rfl rfl rfl rfl rfl (by kernel_rfl) Try.func7 (by kernel_rfl)
  (of_decide_eq_true (by kernel_rfl)) (by unfold Func.isWrapper; first|(rw [if_pos (by decide+kernel)]; kernel_rfl)|(rw [if_neg (by decide+kernel)]; exact ⟨rfl,rfl⟩))
  (fun os started H enc _=>w8t os started H enc)
theorem signalFar_holds:Rows.SignalFarSaid:=y55
end Go.Proofs.Ytolfgnbldofcjaa
end
