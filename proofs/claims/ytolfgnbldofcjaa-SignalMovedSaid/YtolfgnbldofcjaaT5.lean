/-
  Proved: SignalMoved: for every input the call returns true, and each argument reads afterwards as it read before; there is no condition.
-/
import Derived.Test.YtolfgnbldofcjaaT4
import Derived.Test.YtolfgnbldofcjaaProg
import Derived.KernelRfl
set_option linter.unusedVariables false
set_option linter.unusedSimpArgs false
set_option linter.unusedSectionVars false
set_option maxRecDepth 100000
set_option maxHeartbeats 0
section
namespace Go.Am
open M06
theorem y6w:∀ l:List Pt,(M06.ways l).length=l.length - 1
 |[]=>rfl
 |[_]=>rfl
 |a::b::l=>by simp only [M06.ways,List.length_cons,y6w (b::l)]; omega
theorem x22:∀ (l:List Pt) (i:Nat) (x y:Pt),l[i]?=some x→l[i+1]?=some y→(M06.ways l)[i]?=some (sb y x)
 |[],i,x,y,h,_=>by simp at h
 |[a],i,x,y,_,h=>by simp at h
 |a::b::l,0,x,y,h1,h2=>by
  simp at h1 h2; subst h1; subst h2; rfl
 |a::b::l,i+1,x,y,h1,h2=>by
  have:=x22 (b::l) i x y (by simpa using h1) (by simpa using h2)
  simpa [M06.ways] using this
theorem w8q {c:List Pt} (h:2≤c.length):(wy c).length=c.length:=by
 match c,h with
 |a::b::r,_=>simp [wy,y6w]
theorem y28 (c:List Pt):(wy c).length≤c.length:=by
 match c with
 |[]=>simp [wy]
 |[a]=>simp [wy]
 |a::b::r=>simp [wy,y6w]
theorem w8r {c:List Pt} {i:Nat} {x y:Pt} (h2:2≤c.length) (hx:c[i]?=some x) (hy:c[(i+1) % c.length]?=some y):(wy c)[i]?=some (sb y x):=by
 match c,h2 with
 |a::b::r,_=>
  have hi:i<(a::b::r).length:=(List.getElem?_eq_some_iff.1 hx).1
  refine x22 _ i x y ?_ ?_
  ·rw [List.getElem?_append_left hi]; exact hx
  ·by_cases hl:i+1<(a::b::r).length
   ·rw [List.getElem?_append_left hl]
    rwa [Nat.mod_eq_of_lt hl] at hy
   ·have he:i+1=(a::b::r).length:=by omega
    rw [he,Nat.mod_self] at hy
    rw [List.getElem?_append_right (by omega),he]
    simp at hy⊢; exact hy
theorem x6e {S c:List Pt} (h:Cyc S c) (h2:2≤c.length):∀ w∈wy c,w≠(0,0):=by
 match c,h2,h with
 |a::b::r,_,h=>exact (y23 h).2.2.1
theorem w5p {i n:Nat} (hn:0<n) (hi:i<1000000):IntKind.i64.wrap ((i:Int)+1)=((i+1:Nat):Int)∧(((i+1:Nat):Int).tmod (n:Int))=(((i+1) % n:Nat):Int):=by
 refine ⟨z09 (by omega),?_⟩
 rw [Int.tmod_eq_emod_of_nonneg (by omega)]
 rfl
theorem y88 {x y:Pt} (hx:z3h x) (hy:z3h y):IntKind.i64.wrap (x.1 - y.1)=(sb x y).1∧IntKind.i64.wrap (x.2 - y.2)=(sb x y).2:=by
 obtain ⟨x1,x2,x3,x4⟩:=hx
 obtain ⟨y1,y2,y3,y4⟩:=hy
 exact ⟨z1t _ (by omega) (by omega),z1t _ (by omega) (by omega)⟩
theorem y8t {S c:List Pt} (hc:Cyc S c) (hs:∀ x∈c,z3h x) (hl:c.length≤1000) (o:List Pt) (ho:o.length≤1000) (Ls X Y:List (List D)) (n i:Int):
  z5k (y8h std) (Ls,z0d o,z0d c,n,X,Y,i,z0d c,(c.length:Int),(0:Int),())=some (.inl (Ls,z0d (o++wy c),z0d c,n,X,Y,i,()))∨
  z5k (y8h std) (Ls,z0d o,z0d c,n,X,Y,i,z0d c,(c.length:Int),(0:Int),())=some (.inr (Ls,z0d (o++wy c),z0d c,n,X,Y,i,())):=by
 by_cases h2:2≤c.length
 ·right
  have hnz:=x6e hc h2
  have hwl:=w8q h2
  have key:=z6m (b:=y8h std) (fun (j:Nat)=>(Ls,z0d (o++(wy c).take j),z0d c,n,X,Y,i,z0d c,(c.length:Int),(j:Int),())) (fun j=>j≤c.length) (fun j=>c.length - j) (fun _=>Sum.inr (Ls,z0d (o++wy c),z0d c,n,X,Y,i,())) (fun j hj=>by
   by_cases hlt:j<c.length
   ·left
    obtain ⟨x,hx⟩:=z0w hlt
    obtain ⟨y,hy⟩:=z0w (l:=c) (i:=(j+1) % c.length) (Nat.mod_lt _ (by omega))
    have hw:=w8r h2 hx hy
    have hne:=hnz _ (List.mem_of_getElem? hw)
    obtain ⟨m1,m2⟩:=w5p (i:=j) (n:=c.length) (by omega) (by omega)
    have gx:=z07 hx
    have gy:=z07 hy
    obtain ⟨d1,d2⟩:=y88 (hs y (List.mem_of_getElem? hy)) (hs x (List.mem_of_getElem? hx))
    have c1:(j:Int)<(c.length:Int):=by omega
    have c2:(j:Int)≥0:=by omega
    have c3:¬ (c.length:Int)=0:=by omega
    have c4:(((j+1) % c.length:Nat):Int)≥0:=by omega
    have c5:(((j+1) % c.length:Nat):Int)<(c.length:Int):=by have:=Nat.mod_lt (j+1) (show 0<c.length by omega); omega
    have hol2:(o++(wy c).take (j+1)).length≤1000000:=by simp; omega
    have hol:(o++(wy c).take j).length+1≤1000000:=by simp; omega
    have htk:(z0d (o++(wy c).take j)).take (o++(wy c).take j).length=z0d (o++(wy c).take j):=by rw [List.take_of_length_le (by rw [z0g]; omega)]
    have hap:z0d (o++(wy c).take j)++[eP (sb y x)]=z0d (o++(wy c).take (j+1)):=by
     rw [z04 hw]; simp [z0d]
    have hrow:[D.int IntKind.i64 (sb y x).1,D.int IntKind.i64 (sb y x).2]=eP (sb y x):=rfl
    have hal:(o++(wy c).take j).length+1=(o++(wy c).take (j+1)).length:=by rw [z04 hw]; simp; omega
    have hne':¬ ((sb y x).1=0∧(sb y x).2=0):=fun e=>hne (Prod.ext e.1 e.2)
    refine ⟨j+1,?_,by omega,by omega,rfl⟩
    by_cases z1:(sb y x).1=0
    ·have z2:¬ (sb y x).2=0:=fun e=>hne' ⟨z1,e⟩
     simp only [y8h,z1a,z1b,z02,z17,z16,z4p,z06,z0g,z0f,z8x,z01,m1,m2,gx,gy,d1,d2,c1,c2,c3,c4,c5,z1,z2,htk,hol2,List.drop_zero,List.take_succ_cons,List.take_zero,hap,hrow,hal,Nat.le_refl,not_false_eq_true]
     rw [←z1]
     simp only [z1a,z1b,z02,z17,z16,z4p,z06,z0g,hap,hrow,hal,hol2,Nat.le_refl]
    ·simp only [y8h,z1a,z1b,z02,z17,z16,z4p,z06,z0g,z0f,z8x,z01,m1,m2,gx,gy,d1,d2,c1,c2,c3,c4,c5,z1,htk,hol2,List.drop_zero,List.take_succ_cons,List.take_zero,hap,hrow,hal,Nat.le_refl,not_false_eq_true]
   ·right
    have:j=c.length:=by omega
    subst this
    have hn:¬ ((c.length:Int)<(c.length:Int)):=by omega
    rw [←hwl,List.take_length,hwl]
    simp only [y8h,z1a,z1b,hn]) 0 (Nat.zero_le _)
  simpa using key
 ·left
  have hc1:∃ x,c=[x]:=by
   match c,hc,h2 with
   |[x],_,_=>exact ⟨x,rfl⟩
   |a::b::r,_,h2=>exact absurd (by simp) h2
  obtain ⟨x,rfl⟩:=hc1
  ·have gx:=z07 (l:=[x]) (i:=0) rfl
   obtain ⟨d1,d2⟩:=y88 (hs x (by simp)) (hs x (by simp))
   have z1:(sb x x).1=0:=by simp [sb]
   have z2:(sb x x).2=0:=by simp [sb]
   rw [z1] at d1
   rw [z2] at d2
   have w1:IntKind.i64.wrap 1=1:=by decide
   have t1:(1:Int).tmod 1=0:=by decide
   rw [z0l]
   have:y8h std (Ls,z0d o,z0d [x],n,X,Y,i,z0d [x],(([x]:List Pt).length:Int),(0:Int),())=some (.inr (.inl (Ls,z0d (o++wy [x]),z0d [x],n,X,Y,i,()))):=by
    have e:wy [x]=[]:=rfl
    rw [e,List.append_nil]
    have c1:(0:Int)<((0+1:Nat):Int):=by omega
    have l1:((0+1:Nat):Int)=1:=rfl
    simp only [y8h,z1a,z1b,z02,z17,z16,z4p,z06,z0g,z0f,z8x,z01,l1,Int.zero_add,w1,t1,gx,d1,d2,Int.toNat_zero,ge_iff_le,Int.le_refl,show (0:Int)<1 by decide,show ¬ (1:Int)=0 by decide,not_false_eq_true]
   rw [this]
theorem y0j {x:Pt} (h:z03 (-5000) 5000 x):z3h x:=by
 obtain ⟨h1,h2,h3,h4⟩:=h
 exact ⟨by omega,by omega,by omega,by omega⟩
theorem w43 {x y:Pt} (h:z03 (-5000) 5000 x) (k:z03 (-5000) 5000 y):z03 (-10000) 10000 (sb x y):=by
 obtain ⟨h1,h2,h3,h4⟩:=h
 obtain ⟨k1,k2,k3,k4⟩:=k
 refine ⟨?_,?_,?_,?_⟩<;>simp only [sb]<;>omega
theorem x23:∀ {l:List Pt},(∀ x∈l,z03 (-5000) 5000 x)→∀ w∈M06.ways l,z03 (-10000) 10000 w
 |[],_,w,hw=>by simp [M06.ways] at hw
 |[_],_,w,hw=>by simp [M06.ways] at hw
 |a::b::l,h,w,hw=>by
  rcases List.mem_cons.1 hw with rfl|hw
  ·exact w43 (h b (by simp)) (h a (by simp))
  ·exact x23 (l:=b::l) (fun x hx=>h x (List.mem_cons_of_mem _ hx)) w hw
theorem w3o {c:List Pt} (h:∀ x∈c,z03 (-5000) 5000 x):∀ w∈wy c,z03 (-10000) 10000 w:=by
 match c,h with
 |[],_=>simp [wy]
 |[a],_=>simp [wy]
 |a::b::r,h=>
  refine x23 (l:=a::b::r++[a]) fun x hx=>?_
  rcases List.mem_append.1 hx with hx|hx
  ·exact h x hx
  ·simp at hx; subst hx; exact h _ (by simp)
theorem x27:∀ {l:List Pt},(∀ w∈l,z03 (-10000) 10000 w)→z03 (-(10000*(l.length:Int))) (10000*(l.length:Int)) (z20 l)
 |[],_=>by simp [z20,z03]
 |w::l,h=>by
  have h1:=h w (by simp)
  have h2:=x27 (l:=l) (fun x hx=>h x (List.mem_cons_of_mem _ hx))
  rw [z0y]
  simp only [z03,ad,List.length_cons] at*
  omega
theorem y7r:∀ (now:Pt) (ws:List Pt),(grp now ws).length≤ws.length
 |_,[]=>by simp [grp]
 |_,[w]=>by simp [grp]
 |now,w::w'::ws=>by
  rw [grp]
  split
  ·have:=y7r (ad now w) (w'::ws); simp at this⊢; omega
  ·have:=y7r (ad now w) (w'::ws); simp at this⊢; omega
theorem v84 {S a:List Pt} (h:Cyc S a):∀ w∈wy a,w≠(0,0):=by
 match a,h with
 |[x],_=>simp [wy]
 |x::y::r,h=>exact (y23 h).2.2.1
theorem v3w {A B a b:List Pt} (hA:Cyc A a) (hB:Cyc B b) (ka:∀ x∈a,z03 (-5000) 5000 x) (kb:∀ x∈b,z03 (-5000) 5000 x) (la:a.length≤60) (lb:b.length≤30):
  ∃ c,G80 std (z0d a,z0d b,())=some (z0d c,())∧c.length≤a.length+b.length∧∀ T,(∀ z,z∈T↔∃ x∈A,∃ y∈B,z=ad x y)→Cyc T c:=by
 have sa:∀ x∈a,z3h x:=fun x hx=>y0j (ka x hx)
 have sb':∀ x∈b,z3h x:=fun x hx=>y0j (kb x hx)
 have hbox:∀ w∈wy a++wy b,z03 (-10000) 10000 w:=fun w hw=>by
  rcases List.mem_append.1 hw with h|h
  ·exact w3o ka w h
  ·exact w3o kb w h
 have hnz:∀ w∈wy a++wy b,w≠(0,0):=fun w hw=>by
  rcases List.mem_append.1 hw with h|h
  ·exact v84 hA w h
  ·exact v84 hB w h
 have hsm:∀ {w:Pt},z03 (-10000) 10000 w→z3h w:=fun {w} h=>by
  obtain ⟨h1,h2,h3,h4⟩:=h
  exact ⟨by omega,by omega,by omega,by omega⟩
 have hlen:(wy a++wy b).length≤a.length+b.length:=by
  have:=y28 a; have:=y28 b; simp; omega
 obtain ⟨ws,hg97,hp,hs⟩:=w8w (wy a++wy b) (fun w hw=>⟨hsm (hbox w hw),hnz w hw⟩) (by omega)
 have hwl:ws.length≤a.length+b.length:=by rw [hp.length_eq]; exact hlen
 have wbox:∀ w∈ws,z03 (-10000) 10000 w:=fun w hw=>hbox w (hp.mem_iff.1 hw)
 have wnz:∀ w∈ws,w≠(0,0):=fun w hw=>hnz w (hp.mem_iff.1 hw)
 have hs':ws.Pairwise (fun u v=>¬ Bef v u):=hs.imp_of_mem fun {u v} hu hv h hb=>h ((x26 (wnz v hv) (wnz u hu)).2 hb)
 generalize hs0:ad (hd0 a) (hd0 b)=s0
 have ha0:a[0]?=some (hd0 a):=by
  match a,hA with
  |x::r,_=>rfl
 have hb0:b[0]?=some (hd0 b):=by
  match b,hB with
  |x::r,_=>rfl
 have ka0:=ka _ (List.mem_of_getElem? ha0)
 have kb0:=kb _ (List.mem_of_getElem? hb0)
 have hs0b:z03 (-10000) 10000 s0:=by
  rw [←hs0]
  simp only [z03,ad] at*; omega
 have hnowbox:∀ i,z3h (ad s0 (z20 (ws.take i))):=fun i=>by
  have h1:=x27 (l:=ws.take i) (fun w hw=>wbox w (List.mem_of_mem_take hw))
  have h2:(ws.take i).length≤90:=by simp; omega
  simp only [z03,ad,z3h] at*; omega
 refine ⟨w1j s0 ws,?_,?_,fun T hT=>?_⟩
 rotate_left
 ·have h1:=y7r s0 ws
  have ha1:1≤a.length:=by have:=(List.getElem?_eq_some_iff.1 ha0).1; omega
  unfold w1j
  split
  ·simp; omega
  ·simp only [List.length_cons] at*; omega
 ·rw [←hs0]
  exact w1i hA hB hT hp hs'
 have hways:z5k (y2r it0 std) ([[D.list false 2 (z0d a)],[D.list false 2 (z0d b)]],[],z0d a,z0d b,(2:Int),(0:Int),())=some (z0d (wy a++wy b),z0d a,z0d b,()):=by
  generalize hL:[[D.list false 2 (z0d a)],[D.list false 2 (z0d b)]]=L
  have r0:std.rdL L 0 0=z0d a:=by subst hL; rfl
  have r1:std.rdL L 1 0=z0d b:=by subst hL; rfl
  have k0:std.rowOk L 0 [CK.list 2]=true:=by subst hL; rfl
  have k1:std.rowOk L 1 [CK.list 2]=true:=by subst hL; rfl
  have hl2:L.length=2:=by subst hL; rfl
  have e1:(0:Int).toNat=0:=rfl
  have e2:(1:Int).toNat=1:=rfl
  have v1:IntKind.i64.wrap ((0:Int)+1)=1:=by decide
  have v2:IntKind.i64.wrap ((1:Int)+1)=2:=by decide
  have v1':IntKind.i64.wrap 1=1:=by decide
  have v2':IntKind.i64.wrap 2=2:=by decide
  have t0:y2r it0 std (L,[],z0d a,z0d b,(2:Int),(0:Int),())=some (.inl (L,z0d (wy a),z0d a,z0d b,(2:Int),(1:Int),())):=by
   have hw:=y8t hA sa (by omega) [] (by simp) L (z0d b) (z0d a) 2 0
   have en:z0d []=[]:=rfl
   rw [en] at hw
   simp only [List.nil_append] at hw
   rcases hw with hw|hw
   ·simp only [y2r,it0_eq,z3j,z52,z4a,z4b,z5v,z7z,z9t,y1f,y1e,y66,z3i,z1o,e1,Nat.zero_add,r0,k0,hl2,z0g,hw,Option.bind_some,Sum.elim_inl,Sum.elim_inr,z0f,v1,y3r,y00]
    simp [v1']
   ·simp only [y2r,it0_eq,z3j,z52,z4a,z4b,z5v,z7z,z9t,y1f,y1e,y66,z3i,z1o,e1,Nat.zero_add,r0,k0,hl2,z0g,hw,Option.bind_some,Sum.elim_inl,Sum.elim_inr,z0f,v1,y3r,y00]
    simp [v1']
  have t1:y2r it0 std (L,z0d (wy a),z0d a,z0d b,(2:Int),(1:Int),())=some (.inl (L,z0d (wy a++wy b),z0d a,z0d b,(2:Int),(2:Int),())):=by
   have hw:=y8t hB sb' (by omega) (wy a) (by have:=y28 a; omega) L (z0d b) (z0d a) 2 1
   rcases hw with hw|hw
   ·simp only [y2r,it0_eq,z3j,z52,z4a,z4b,z5v,z7z,z9t,y1f,y1e,y66,z3i,z1o,e2,Nat.zero_add,r1,k1,hl2,z0g,hw,Option.bind_some,Sum.elim_inl,Sum.elim_inr,z0f,v2,y3r,y00]
    simp [v2']
   ·simp only [y2r,it0_eq,z3j,z52,z4a,z4b,z5v,z7z,z9t,y1f,y1e,y66,z3i,z1o,e2,Nat.zero_add,r1,k1,hl2,z0g,hw,Option.bind_some,Sum.elim_inl,Sum.elim_inr,z0f,v2,y3r,y00]
    simp [v2']
  have t2:y2r it0 std (L,z0d (wy a++wy b),z0d a,z0d b,(2:Int),(2:Int),())=some (.inr (z0d (wy a++wy b),z0d a,z0d b,())):=by
   have c1:¬ (2:Int)<2:=by omega
   simp only [y2r,z1a,z1b,c1]
  rw [z0l,t0]
  simp only
  rw [z0l,t1]
  simp only
  rw [z0l,t2]
 have h99:=w4o (y0j ka0) (y0j kb0)
 rw [hs0] at h99
 unfold G99 at h99
 have hgrp:=z6m (b:=x0z it0 std) (fun (s:List Pt×Nat)=>(z0d s.1,z0d ws,(ad s0 (z20 (ws.take s.2))).1,(ad s0 (z20 (ws.take s.2))).2,(0:Nat),s.1.length,(ws.length:Int),(s.2:Int),()))
  (fun s=>s.2≤ws.length∧s.1.length≤s.2+1) (fun s=>ws.length - s.2) (fun s=>(z0d (s.1++grp (ad s0 (z20 (ws.take s.2))) (ws.drop s.2)),(0:Nat),(s.1++grp (ad s0 (z20 (ws.take s.2))) (ws.drop s.2)).length,())) (by
  rintro ⟨dn,i⟩ ⟨hi,hdn⟩
  simp only at hi hdn⊢
  by_cases hlt:i<ws.length
  ·left
   obtain ⟨w,hw⟩:=z0w hlt
   have hww:=List.mem_of_getElem? hw
   have gw:=z07 hw
   have e9:=w4o (hnowbox i) (hsm (wbox w hww))
   have hnow:ad (ad s0 (z20 (ws.take i))) w=ad s0 (z20 (ws.take (i+1))):=by
    rw [z04 hw,z2q,z0y,z14,z1e,z2h]
   rw [hnow] at e9
   unfold G99 at e9
   have hd:=x4j hw
   have c1:(i:Int)<(ws.length:Int):=by omega
   have c2:(i:Int)≥0:=by omega
   have hwr:=z09 (i:=i) (by omega)
   have htk:(z0d dn).take dn.length=z0d dn:=by rw [List.take_of_length_le (by rw [z0g]; omega)]
   have hrow:∀ p:Pt,[D.int IntKind.i64 p.1,D.int IntKind.i64 p.2]=eP p:=fun _=>rfl
   have hap:∀ p:Pt,z0d dn++[eP p]=z0d (dn++[p]):=fun p=>by simp [z0d]
   have hdl:dn.length≤1000:=by omega
   have hdl1:dn.length+1≤1000000:=by omega
   have hal:∀ p:Pt,dn.length+1=(dn++[p]).length:=fun p=>by simp
   by_cases hl:i+1<ws.length
   ·obtain ⟨w',hw'⟩:=z0w hl
    have hww':=List.mem_of_getElem? hw'
    have gw':=z07 hw'
    have hd':=x4j hw'
    have c3:((i+1:Nat):Int)<(ws.length:Int):=by omega
    have c4:((i+1:Nat):Int)≥0:=by omega
    have e8:=w0h (hsm (wbox w hww)) (hsm (wbox w' hww'))
    by_cases hsame:z7d w w'
    ·refine ⟨(dn,i+1),?_,⟨by simp only; omega,by simp only; omega⟩,by simp only; omega,?_⟩
     ·have ht:=(y83 (wnz w hww) (wnz w' hww')).2 hsame
      simp only [x0z,it0_eq,z1a,z1b,z02,z17,z16,z4p,z06,z0g,z0f,hwr,c1,c2,c3,c4,gw,gw',e8,ht,Int.zero_add,hrow,List.take_succ_cons,List.take_zero,List.drop_zero,Nat.le_refl,e9]
     ·simp only [hd,hd']
      rw [grp,if_pos hsame,hnow, ←hd']
    ·refine ⟨(dn++[ad s0 (z20 (ws.take (i+1)))],i+1),?_,⟨by simp only; omega,by simp; omega⟩,by simp only; omega,?_⟩
     ·have ht:¬ z5q w w'=0:=fun e=>hsame ((y83 (wnz w hww) (wnz w' hww')).1 e)
      have h1:=hap (ad s0 (z20 (ws.take (i+1))))
      have h2:=hal (ad s0 (z20 (ws.take (i+1))))
      simp only [x0z,it0_eq,z1a,z1b,z02,z17,z16,z4p,z06,z0g,z0f,hwr,c1,c2,c3,c4,gw,gw',e8,ht,Int.zero_add,hrow,List.take_succ_cons,List.take_zero,List.drop_zero,Nat.le_refl,e9,htk,hdl1,h1,h2]
      simp only [List.length_append,List.length_cons,List.length_nil,Nat.zero_add,hdl1,Nat.le_refl,if_true,Option.bind_some,hwr]
     ·simp only [hd,hd']
      rw [grp,if_neg hsame,hnow, ←hd',List.append_assoc]; rfl
   ·have hie:i+1=ws.length:=by omega
    have c3:¬ ((i+1:Nat):Int)<(ws.length:Int):=by omega
    refine ⟨(dn++[ad s0 (z20 (ws.take (i+1)))],i+1),?_,⟨by simp only; omega,by simp; omega⟩,by simp only; omega,?_⟩
    ·have h1:=hap (ad s0 (z20 (ws.take (i+1))))
     have h2:=hal (ad s0 (z20 (ws.take (i+1))))
     simp only [x0z,it0_eq,z1a,z1b,z02,z17,z16,z4p,z06,z0g,z0f,hwr,c1,c2,c3,gw,Int.zero_add,hrow,List.take_succ_cons,List.take_zero,List.drop_zero,Nat.le_refl,e9,htk,hdl1,h1,h2]
     simp only [List.length_append,List.length_cons,List.length_nil,Nat.zero_add,hdl1,Nat.le_refl,if_true,Option.bind_some,hwr]
    ·have hdn':ws.drop (i+1)=[]:=by rw [hie]; simp
     simp only [hd,hdn',grp,hnow,List.append_nil]
  ·right
   have:i=ws.length:=by omega
   subst this
   have hn:¬ ((ws.length:Int)<(ws.length:Int)):=by omega
   simp only [x0z,z1a,z1b,hn,List.drop_length,grp,List.append_nil]) ([s0],0) ⟨Nat.zero_le _,by simp⟩
 simp only [List.take_zero,List.drop_zero,z14,z1e] at hgrp
 unfold G80
 have hg97:v1l it0 std (z0d (wy a++wy b),())=some (z0d ws,()):=hg97
 have e0:std.ofNat 2=(2:Int):=rfl
 have g0a:=z07 ha0
 have g0b:=z07 hb0
 have z0:(0:Int).toNat=0:=rfl
 have hrow:∀ p:Pt,[D.int IntKind.i64 p.1,D.int IntKind.i64 p.2]=eP p:=fun _=>rfl
 have hpl:(wy a++wy b).length=ws.length:=hp.length_eq.symm
 have hs0e:[eP s0]=z0d [s0]:=rfl
 have hl1:([s0]:List Pt).length=1:=rfl
 have k0:((0:Nat):Int)=0:=rfl
 simp only [k0,hl1] at hgrp
 simp only [g80,it0_eq,e0,hways,z0,hg97,z1a,z1b,z02,z17,z16,z4p,z06,z0g,g0a,g0b,hrow,List.take_succ_cons,List.take_zero,List.drop_zero,Nat.le_refl,h99,hpl,hs0e,hgrp,List.singleton_append,List.length_cons]
 have hgle:=y7r s0 ws
 generalize hgl:(grp s0 ws).length=gl at hgle
 have hm:w1j s0 ws=if 1<gl+1 then (s0::grp s0 ws).dropLast else s0::grp s0 ws:=by rw [w1j,List.length_cons,hgl]
 rw [hm]
 by_cases h1:1<gl+1
 ·have c1:((gl+1:Nat):Int)>1:=by omega
  have v1:IntKind.i64.wrap (((gl+1:Nat):Int) - 1)=(gl:Int):=by rw [z1t]<;>omega
  have c2:(0:Int)≤(gl:Int):=by omega
  have c3:(gl:Int)≤((gl+1:Nat):Int):=by omega
  have c4:gl≤gl+1:=by omega
  simp only [z1a,z1b,z02,z17,z16,z4p,z06,z0g,c1,z01,v1,c2,c3,ge_iff_le,Int.le_refl,Int.toNat_zero,Nat.sub_zero,Nat.add_zero,List.length_cons,hgl,c4,List.drop_zero,h1]
  rw [List.dropLast_eq_take]
  simp [z0d,hgl]
 ·have c1:¬ ((gl+1:Nat):Int)>1:=by omega
  simp only [z1a,z1b,z02,z17,z16,z4p,z06,z0g,c1,List.length_cons,hgl,Nat.le_refl,List.drop_zero,h1]
  rw [List.take_of_length_le (by rw [z0g]; simp [hgl])]
end Go.Am
end
section
namespace M06
theorem y9v {S:List Pt} {e:Pt}:∀ {l:List Pt} {a:Pt},Pth S (a::l++[e])→e∉l→l.Nodup
 |[],_,_,_=> .nil
 |b::l,a,h,hn=>by
  have ih:=y9v (l:=l) (a:=b) h.2 (fun x=>hn (List.mem_cons_of_mem _ x))
  refine List.nodup_cons.2 ⟨fun hb=>?_,ih⟩
  obtain ⟨l2,l3,rfl⟩:=List.append_of_mem hb
  have tl:∀ (u v:List Pt),Pth S (u++v)→Pth S v:=by
   intro u
   induction u with
   |nil=>intro v h; exact h
   |cons x u ih=>intro v h; exact ih v h.tail
  have h1:Pth S (b::(l2++b::l3)++[e]):=h.2
  have h2:Pth S (b::l3++[e]):=by
   refine tl (b::l2) _ ?_
   have:b::(l2++b::l3)++[e]=(b::l2)++(b::l3++[e]):=by simp
   rwa [this] at h1
  have:=y1l h1 h2 (fun x=>hn (List.mem_cons_of_mem _ x)) (fun x=>hn (List.mem_cons_of_mem _ (by simp [x])))
  have:=congrArg List.length this
  simp at this
  omega
theorem x9e {S c:List Pt} (h:Cyc S c):c.Nodup:=by
 match c,h with
 |a::r,h=>
  rcases h.2.2 with ⟨hr,_⟩|⟨_,hp,hn⟩
  ·subst hr; simp
  ·exact List.nodup_cons.2 ⟨hn,y9v hp hn⟩
theorem y92 {α:Type} [DecidableEq α]:∀ {l m:List α},l.Nodup→(∀ x∈l,x∈m)→l.length≤m.length
 |[],m,_,_=>by simp
 |a::l,m,h,hs=>by
  have h1:=List.nodup_cons.1 h
  have:=y92 (l:=l) (m:=m.erase a) h1.2 (fun x hx=>by
   refine (List.mem_erase_of_ne ?_).2 (hs x (List.mem_cons_of_mem _ hx))
   rintro rfl; exact h1.1 hx)
  have ha:a∈m:=hs a (by simp)
  rw [List.length_erase_of_mem ha] at this
  have:0<m.length:=List.length_pos_of_mem ha
  simp only [List.length_cons]; omega
theorem x9f {S c:List Pt} (h:Cyc S c):c.length≤S.length:=y92 (x9e h) (y4m h)
noncomputable def z6f (S:List Pt):List Pt:=Classical.epsilon (Cyc S)
theorem z8k {S:List Pt} (h:S≠[]):Cyc S (z6f S):=by
 obtain ⟨c,hc,_⟩:=y6l h
 exact Classical.epsilon_spec ⟨c,hc⟩
theorem y79 {S c:List Pt} (h:Cyc S c):z6f S=c:=y6k (z8k (w4a h)) h
def z5e (A B:List Pt):List Pt:=A.flatMap fun x=>B.map (ad x)
theorem z33 {A B:List Pt} (z:Pt):z∈z5e A B↔∃ x∈A,∃ y∈B,z=ad x y:=by
 simp only [z5e,List.mem_flatMap,List.mem_map]
 exact ⟨fun ⟨x,hx,y,hy,e⟩=>⟨x,hx,y,hy,e.symm⟩,fun ⟨x,hx,y,hy,e⟩=>⟨x,hx,y,hy,e.symm⟩⟩
theorem w0z {A B:List Pt} (hA:A≠[]) (hB:B≠[]):z5e A B≠[]:=by
 match A,B,hA,hB with
 |a::A,b::B,_,_=>intro h; have:=(z33 (A:=a::A) (B:=b::B) (ad a b)).2 ⟨a,by simp,b,by simp,rfl⟩; rw [h] at this; simp at this
def z37 (l:List Pt) (hs:List (List Pt)):List Pt:=hs.foldl z5e l
theorem x08 (l:List Pt) (hs:List (List Pt)) (h:List Pt):z37 l (hs++[h])=z5e (z37 l hs) h:=by simp [z37,List.foldl_append]
theorem w75 {l:List Pt} {hs:List (List Pt)} (hl:l≠[]) (hh:∀ h∈hs,h≠[]):z37 l hs≠[]:=by
 induction hs generalizing l with
 |nil=>exact hl
 |cons h hs ih=>exact ih (w0z hl (hh h (by simp))) (fun x hx=>hh x (List.mem_cons_of_mem _ hx))
end M06
end
section
namespace Go.Am
open M06
structure y0a (l:List Pt) (hs:List (List Pt)):Prop where
 many:z43 l
 few:hs.length≤4
 manyH:∀ h∈hs,z43 h
 box:∀ p∈l,z03 0 1000 p
 boxH:∀ h∈hs,∀ p∈h,z03 (-1000) 1000 p
theorem z87 {l:List Pt} {hs:List (List Pt)}:x1h l hs=0↔y0a l hs:=by
 unfold x1h
 constructor
 ·intro h
  split at h
  ·cases h
  ·rename_i h1
   split at h
   ·cases h
   ·rename_i h2
    simp only [not_or,Classical.not_not,not_exists,not_and] at h1 h2
    exact ⟨h1.1,by omega,fun x hx=>h1.2.2 x hx,h2.1,fun x hx=>h2.2 x hx⟩
 ·intro h
  rw [if_neg,if_neg]
  ·rintro (k|⟨x,hx,k⟩)
   ·exact k h.box
   ·exact k (h.boxH x hx)
  ·rintro (k|k|⟨x,hx,k⟩)
   ·exact k h.many
   ·have:=h.few; omega
   ·exact k (h.manyH x hx)
theorem y0a.ne {l:List Pt} {hs:List (List Pt)} (h:y0a l hs):l≠[]:=by
 rintro rfl; have:=h.many.1; simp at this
theorem y0a.neH {l:List Pt} {hs:List (List Pt)} (h:y0a l hs):∀ x∈hs,x≠[]:=by
 rintro x hx rfl; have:=(h.manyH [] hx).1; simp at this
theorem y0a.allNe {l:List Pt} {hs:List (List Pt)} (h:y0a l hs):z37 l hs≠[]:=w75 h.ne h.neH
theorem w3e {l:List Pt} (hl:∀ p∈l,z03 (-1000) 1000 p):∀ {hs:List (List Pt)},(∀ h∈hs,∀ p∈h,z03 (-1000) 1000 p)→
    ∀ p∈z37 l hs,z03 (-(1000*((hs.length:Int)+1))) (1000*((hs.length:Int)+1)) p:=by
  have main:∀ (n:Nat) (hs:List (List Pt)),hs.length=n→(∀ h∈hs,∀ p∈h,z03 (-1000) 1000 p)→∀ p∈z37 l hs,z03 (-(1000*((hs.length:Int)+1))) (1000*((hs.length:Int)+1)) p:=by
   intro n
   induction n with
   |zero=>intro hs h0 _ p hp; rw [List.length_eq_zero_iff.1 h0] at hp⊢; simpa using hl p hp
   |succ n ih=>
    intro hs hn hh p hp
    rcases List.eq_nil_or_concat hs with rfl|⟨hs,h,rfl⟩
    · simp at hn
    rw [List.concat_eq_append] at*
    have ih:=ih hs (by simpa using hn)
    rw [x08,z33] at hp
    obtain ⟨x,hx,y,hy,rfl⟩:=hp
    have h1:=ih (fun h hm=>hh h (List.mem_append_left _ hm)) x hx
    have h2:=hh h (by simp) y hy
    simp only [z03,ad,List.length_append,List.length_cons,List.length_nil] at*
    omega
  intro hs
  exact main _ hs rfl
theorem y0a.take {l:List Pt} {hs:List (List Pt)} (h:y0a l hs) (i:Nat):y0a l (hs.take i):=
 ⟨h.many,by have:=h.few; simp; omega,fun x hx=>h.manyH x (List.mem_of_mem_take hx),h.box,fun x hx=>h.boxH x (List.mem_of_mem_take hx)⟩
theorem y0a.boxA {l:List Pt} {hs:List (List Pt)} (h:y0a l hs):∀ p∈z37 l hs,z03 (-5000) 5000 p:=by
 intro p hp
 have:=w3e (l:=l) (fun p hp=>by obtain ⟨a,b,c,d⟩:=h.box p hp; exact ⟨by omega,by omega,by omega,by omega⟩) h.boxH p hp
 have h4:=h.few
 simp only [z03] at*; omega
theorem y0a.cyc {l:List Pt} {hs:List (List Pt)} (h:y0a l hs):Cyc (z37 l hs) (z6f (z37 l hs)):=z8k h.allNe
theorem y0a.cbox {l:List Pt} {hs:List (List Pt)} (h:y0a l hs):∀ p∈z6f (z37 l hs),z03 (-5000) 5000 p:=fun p hp=>h.boxA p (y4m h.cyc p hp)
theorem x5d {x:Pt} {k:Int} (hk:k≤10000) (h:z03 (-k) k x):z3h x:=by
 obtain ⟨h1,h2,h3,h4⟩:=h
 exact ⟨by omega,by omega,by omega,by omega⟩
theorem x4f {hs:List (List Pt)} {i:Nat} {h:List Pt} (hh:hs[i]?=some h):(z19 hs)[i]?=some (eH h):=by simp [z19,hh]
theorem z85 (hs:List (List Pt)):(z19 hs).length=hs.length:=by simp [z19]
theorem y3h {hs:List (List Pt)} {i:Nat} {h:List Pt} (hh:hs[i]?=some h):hs.take (i+1)=hs.take i++[h]:=by
 rw [List.take_add_one,hh]; rfl
theorem y2b {l:List Pt} {hs:List (List Pt)} (hf:y0a l hs):
  z5k (x20 it0 std) (z0d l,z19 hs,z0d (z6f l),z19 hs,(hs.length:Int),(0:Int),())=some (z0d l,z19 hs,z0d (z6f (z37 l hs)),())∧(z6f (z37 l hs)).length≤60:=by
 have key:=x8h (b:=x20 it0 std) (fun (i:Nat)=>(z0d l,z19 hs,z0d (z6f (z37 l (hs.take i))),z19 hs,(hs.length:Int),(i:Int),())) (fun i=>i≤hs.length∧(z6f (z37 l (hs.take i))).length≤12*(i+1)) (fun i=>hs.length - i) (fun r=>r=(z0d l,z19 hs,z0d (z6f (z37 l hs)),())∧(z6f (z37 l hs)).length≤60) (fun i ⟨hi,hcl⟩=>by
  by_cases hlt:i<hs.length
  ·left
   obtain ⟨h,hh⟩:=z0w hlt
   have hm:=List.mem_of_getElem? hh
   have gh:=x4f hh
   have h4:=hf.few
   have hmany:=hf.manyH h hm
   obtain ⟨b,hb1,hb2⟩:=w4s (l:=h) hmany.1 hmany.2 (fun x hx=>x5d (k:=1000) (by omega) (hf.boxH h hm x hx))
   have h60:=w4r (l:=h) (by have:=hmany.2; omega)
   have hbl:=x9f hb2
   have hbb:∀ x∈b,z03 (-5000) 5000 x:=fun x hx=>by
    obtain ⟨a1,a2,a3,a4⟩:=hf.boxH h hm x (y4m hb2 x hx)
    exact ⟨by omega,by omega,by omega,by omega⟩
   obtain ⟨c,hc1,hc2,hc3⟩:=v3w (hf.take i).cyc hb2 (hf.take i).cbox hbb (by omega) (by have:=hmany.2; omega)
   have e1:z37 l (hs.take (i+1))=z5e (z37 l (hs.take i)) h:=by rw [y3h hh,x08]
   have hc:=y79 (hc3 _ z33)
   have c1:(i:Int)<(hs.length:Int):=by omega
   have c2:(i:Int)≥0:=by omega
   have hw:=z09 (i:=i) (by omega)
   refine ⟨i+1,?_,⟨by omega,?_⟩,by omega⟩
   ·rw [e1,hc]
    have hb1':g59 it0 std (z0d h,())=some (z0d b,()):=hb1
    have h60':g60 it0 std (z0d h,())=some (z0d h,()):=h60
    have hc1':g80 it0 std (z0d (z6f (z37 l (hs.take i))),z0d b,())=some (z0d c,()):=hc1
    simp only [x20,it0_eq,z1a,z1b,x6d,z88,c1,c2,z0f,hw,gh,h60',hb1',hc1']
   ·rw [e1,hc]
    have:=hmany.2
    omega
  ·right
   have:i=hs.length:=by omega
   subst this
   have hn:¬ ((hs.length:Int)<(hs.length:Int)):=by omega
   refine ⟨_,?_,rfl,?_⟩
   ·simp only [x20,z1a,z1b,hn,List.take_length]
   ·have:=hf.few
    rw [List.take_length] at hcl; omega) 0 ⟨Nat.zero_le _,by
   simp only [List.take_zero]
   have:=x9f (z8k hf.ne)
   have:=hf.many.2
   show (z6f l).length≤_
   omega⟩
 obtain ⟨r,h1,h2,h3⟩:=key
 subst h2
 exact ⟨h1,h3⟩
theorem w78 {l:List Pt} {hs:List (List Pt)} (h:x1h l hs≠0):G48 std (z0d l,z19 hs,())=some (.inl (x1h l hs,())):=by
 unfold G48
 have h18:g18 it0 std (z0d l,z19 hs,())=some (x1h l hs,()):=w4x l hs
 simp only [g48,z1a,z1b,h18,h,not_false_eq_true]
theorem v3x {l:List Pt} {hs:List (List Pt)} (hf:y0a l hs):G48 std (z0d l,z19 hs,())=some (.inr (z0d l,z19 hs,z0d (z6f (z37 l hs)),0,())):=by
 unfold G48
 have h18:g18 it0 std (z0d l,z19 hs,())=some (x1h l hs,()):=w4x l hs
 rw [z87.2 hf] at h18
 have hm:=hf.many
 obtain ⟨b,hb1,hb2⟩:=w4s (l:=l) hm.1 hm.2 (fun x hx=>by obtain ⟨a1,a2,a3,a4⟩:=hf.box x hx; exact ⟨by omega,by omega,by omega,by omega⟩)
 rw [←y79 hb2] at hb1
 have hb1':g59 it0 std (z0d l,())=some (z0d (z6f l),()):=hb1
 have h60:g60 it0 std (z0d l,())=some (z0d l,()):=w4r (l:=l) (by have:=hm.2; omega)
 have hl:=(y2b hf).1
 simp only [g48,it0_eq,z1a,z1b,z85,h18,h60,hb1',hl,not_true]
theorem x4u {l:List Pt} {hs:List (List Pt)} (hf:y0a l hs):(z6f (z37 l hs)).length≤60:=(y2b hf).2
noncomputable def x21 (l:List Pt) (hs:List (List Pt)):List Pt:=if x1h l hs=0 then z6f (z37 l hs) else []
theorem w0j (l:List Pt) (hs:List (List Pt)):G16 std (z0d l,z19 hs,())=some (z0d (x21 l hs),x1h l hs,()):=by
 unfold G16 x21
 by_cases h:x1h l hs=0
 ·have hf:=z87.1 h
  have h48:g48 it0 std (z0d l,z19 hs,())=_:=v3x hf
  have hlen:=x4u hf
  generalize hc:z6f (z37 l hs)=c at h48 hlen
  have key:=z6m (b:=w3c std) (fun (i:Nat)=>(z0d (c.take i),z0d c,(c.length:Int),(i:Int),())) (fun i=>i≤c.length) (fun i=>c.length - i) (fun _=>(z0d c,())) (fun i hi=>by
   by_cases hlt:i<c.length
   ·left
    obtain ⟨p,hp⟩:=z0w hlt
    have gp:=z07 hp
    have c1:(i:Int)<(c.length:Int):=by omega
    have c2:(i:Int)≥0:=by omega
    have hw:=z09 (i:=i) (by omega)
    have htk:(z0d (c.take i)).take (c.take i).length=z0d (c.take i):=by rw [List.take_of_length_le (by rw [z0g]; omega)]
    have hap:z0d (c.take i)++[eP p]=z0d (c.take (i+1)):=by rw [z04 hp]; simp [z0d]
    have hl1:(c.take i).length+1≤1000000:=by simp; omega
    have hl2:(c.take i).length+1=(c.take (i+1)).length:=by rw [z04 hp]; simp
    have hl3:(c.take (i+1)).length≤1000000:=by simp; omega
    refine ⟨i+1,?_,by omega,by omega,rfl⟩
    simp only [w3c,z1a,z1b,z02,z17,z16,z4p,z06,z0g,z0f,hw,c1,c2,gp,htk,hap,hl1,hl2,hl3,List.drop_zero,List.take_succ_cons,List.take_zero,Nat.le_refl]
   ·right
    have:i=c.length:=by omega
    subst this
    have hn:¬ ((c.length:Int)<(c.length:Int)):=by omega
    simp only [w3c,z1a,z1b,hn,List.take_length]) 0 (Nat.zero_le _)
  have e0:z0d (c.take 0)=[]:=rfl
  have k0:((0:Nat):Int)=0:=rfl
  rw [e0,k0] at key
  simp only [g16,it0_eq,z1a,z1b,h48,z0g,key,h,not_true]
 ·have h48:g48 it0 std (z0d l,z19 hs,())=_:=w78 h
  simp only [g16,z1a,z1b,h48,h,not_false_eq_true]
  rfl
end Go.Am
end
noncomputable section
namespace Go.Am
def w2r:Ctr:=
 ⟨57,[.list 2, .agg [.int .i64, .int .i64], .int .i64],[],[(.ret,⟨[(0, .bool)],[],1⟩)]⟩
def la57:List LA:=
 [⟨94,[false,true],7,⟨⟨[(0, .yld 6),(1, .bptr 5 0),(6, .list 2),(7, .int .i64),(8, .int .i64)],[.box [.list 2], .box [.int .i64, .int .i64], .box [.int .i64], .box [.bool], .box [.clo 84 [] [.bptr 2 0]], .box [.list 2], .loop Go.LoopState.ready Option.none 57 [Bool.false,Bool.true,Bool.false,Bool.true,Bool.true,Bool.true] 47 [(22, .clo 94 [] [.bptr 5 0]),(4, .bptr 1 0),(3, .bptr 0 0),(7, .bptr 4 0),(6, .bptr 3 0)]],33⟩,[(AX.ret,⟨[],[.box [.list 2], .box [.int .i64, .int .i64], .box [.int .i64], .box [.bool], .box [.clo 84 [] [.bptr 2 0]], .box [.list 2], .loop Go.LoopState.ready Option.none 57 [Bool.false,Bool.true,Bool.false,Bool.true,Bool.true,Bool.true] 47 [(22, .clo 94 [] [.bptr 5 0]),(4, .bptr 1 0),(3, .bptr 0 0),(7, .bptr 4 0),(6, .bptr 3 0)]],33⟩),(AX.ret,⟨[],[.box [.list 2], .box [.int .i64, .int .i64], .box [.int .i64], .box [.bool], .box [.clo 84 [] [.bptr 2 0]], .box [.list 2], .loop Go.LoopState.done (Option.some Go.Code.ret) 57 [Bool.false,Bool.true,Bool.false,Bool.true,Bool.true,Bool.true] 47 [(22, .clo 94 [] [.bptr 5 0]),(4, .bptr 1 0),(3, .bptr 0 0),(7, .bptr 4 0),(6, .bptr 3 0)]],33⟩),((AX.exit 0),⟨[],[.box [.list 2], .box [.int .i64, .int .i64], .box [.int .i64], .box [.bool], .box [.clo 84 [] [.bptr 2 0]], .box [.list 2], .loop Go.LoopState.ready Option.none 57 [Bool.false,Bool.true,Bool.false,Bool.true,Bool.true,Bool.true] 47 [(22, .clo 94 [] [.bptr 5 0]),(4, .bptr 1 0),(3, .bptr 0 0),(7, .bptr 4 0),(6, .bptr 3 0)]],33⟩)]⟩⟩]
def ja57:List JA:=
 [⟨57,[true,false,true,true,true],0,[(AX.normal,⟨[(6, .bptr 0 0)],[.box [.bool]],47⟩),(AX.ret,⟨[(6, .bptr 0 0)],[.box [.bool]],47⟩)]⟩,
 ⟨57,[false,true,false,true,false,true,false,true,true,true],19,[(AX.normal,⟨[(3, .bptr 0 0),(4, .bptr 1 0),(6, .bptr 3 0),(7, .bptr 4 0),(46, .bool)],[.box [.list 2], .box [.int .i64, .int .i64], .box [.int .i64], .box [.bool], .box [.clo 84 [] [.bptr 2 0]], .box [.list 2], .dead, .box [.int .i64, .int .i64], .dead, .dead, .dead, .dead, .dead, .dead, .dead, .dead, .dead, .dead, .box [.int .i64, .int .i64]],47⟩)]⟩]
def v7e:List CF:=
 []
def an57:Anns:=
 ⟨v7e,ja57,[]⟩
def v8m (p:Prim):(LD×T62)→Option ((LD×T62)⊕((LD×T12)⊕((LD×T12)⊕(LD×T12)))):=
 fun a=>opt.run _ (
 opt.ask _ (p.cmp .lss a.2.2.2.2.2.2.2.2.1 a.2.2.2.2.2.2.2.1) (
 opt.need _ (p.rowOk a.2.2.2.2.2.2.1 (p.nat a.2.2.2.2.2.2.2.2.1) [ci,ci])<|
 opt.need _ (p.cmp .geq a.2.2.2.2.2.2.2.2.1 (0:Int))<|
 opt.need _ (p.cmp .neq (p.ofNat (p.len a.2.2.2.2.2.1)) (0:Int))<|
 opt.need _ (p.rowOk a.2.2.2.2.2.1 (p.nat (p.ar .rem .i64 (p.ar .add .i64 a.2.2.2.2.2.2.2.2.1 (1:Int)) (p.ofNat (p.len a.2.2.2.2.2.1)))) [ci,ci])<|
 opt.need _ (p.cmp .geq (p.ar .rem .i64 (p.ar .add .i64 a.2.2.2.2.2.2.2.2.1 (1:Int)) (p.ofNat (p.len a.2.2.2.2.2.1))) (0:Int))<|
 opt.ask _ (bif (p.cmp .eql (p.ar .sub .i64 (p.rdI a.2.2.2.2.2.1 (p.nat (p.ar .rem .i64 (p.ar .add .i64 a.2.2.2.2.2.2.2.2.1 (1:Int)) (p.ofNat (p.len a.2.2.2.2.2.1)))) 0) (p.rdI a.2.2.2.2.2.2.1 (p.nat a.2.2.2.2.2.2.2.2.1) 0)) (0:Int)) then (bif (p.cmp .eql (p.ar .sub .i64 (p.rdI a.2.2.2.2.2.1 (p.nat (p.ar .rem .i64 (p.ar .add .i64 a.2.2.2.2.2.2.2.2.1 (1:Int)) (p.ofNat (p.len a.2.2.2.2.2.1)))) 1) (p.rdI a.2.2.2.2.2.2.1 (p.nat a.2.2.2.2.2.2.2.2.1) 1)) (0:Int)) then Bool.true else Bool.false) else Bool.false) (
 opt.ret _ (Sum.inr (Sum.inl (a.1,(a.2.1,(a.2.2.1,(a.2.2.2.1,(a.2.2.2.2.1,(a.2.2.2.2.2.1,()))))))))) (
 opt.need _ (p.and Bool.true (p.and Bool.true Bool.true))<|
 opt.bnd ((LD×T63)) _ (
 opt.run ((LD×T63)) (
 opt.ask _ (p.cmp .lss (p.ar .sub .i64 (p.ar .mul .i64 (p.ar .sub .i64 (p.rdI a.2.2.2.2.2.1 (p.nat (p.ar .rem .i64 (p.ar .add .i64 a.2.2.2.2.2.2.2.2.1 (1:Int)) (p.ofNat (p.len a.2.2.2.2.2.1)))) 0) (p.rdI a.2.2.2.2.2.2.1 (p.nat a.2.2.2.2.2.2.2.2.1) 0)) (p.ar .sub .i64 a.2.2.1 (p.ar .mul .i64 (p.rdI a.2.2.2.2.2.2.1 (p.nat a.2.2.2.2.2.2.2.2.1) 1) a.2.2.2.1))) (p.ar .mul .i64 (p.ar .sub .i64 (p.rdI a.2.2.2.2.2.1 (p.nat (p.ar .rem .i64 (p.ar .add .i64 a.2.2.2.2.2.2.2.2.1 (1:Int)) (p.ofNat (p.len a.2.2.2.2.2.1)))) 1) (p.rdI a.2.2.2.2.2.2.1 (p.nat a.2.2.2.2.2.2.2.2.1) 1)) (p.ar .sub .i64 a.2.1 (p.ar .mul .i64 (p.rdI a.2.2.2.2.2.2.1 (p.nat a.2.2.2.2.2.2.2.2.1) 0) a.2.2.2.1)))) (0:Int)) (
 opt.ret _ (a.1,(a.2.1,(a.2.2.1,(a.2.2.2.1,(a.2.2.2.2.1,(a.2.2.2.2.2.1,((p.rdI a.2.2.2.2.2.2.1 (p.nat a.2.2.2.2.2.2.2.2.1) 0),((p.rdI a.2.2.2.2.2.2.1 (p.nat a.2.2.2.2.2.2.2.2.1) 1),((p.ar .sub .i64 (p.rdI a.2.2.2.2.2.1 (p.nat (p.ar .rem .i64 (p.ar .add .i64 a.2.2.2.2.2.2.2.2.1 (1:Int)) (p.ofNat (p.len a.2.2.2.2.2.1)))) 0) (p.rdI a.2.2.2.2.2.2.1 (p.nat a.2.2.2.2.2.2.2.2.1) 0)),((p.ar .sub .i64 (p.rdI a.2.2.2.2.2.1 (p.nat (p.ar .rem .i64 (p.ar .add .i64 a.2.2.2.2.2.2.2.2.1 (1:Int)) (p.ofNat (p.len a.2.2.2.2.2.1)))) 1) (p.rdI a.2.2.2.2.2.2.1 (p.nat a.2.2.2.2.2.2.2.2.1) 1)),(Bool.true,())))))))))))) (
 opt.ask _ (p.cmp .eql (p.ofNat (p.len a.1)) (2:Int)) (
 opt.ret _ (a.1,(a.2.1,(a.2.2.1,(a.2.2.2.1,(a.2.2.2.2.1,(a.2.2.2.2.2.1,((p.rdI a.2.2.2.2.2.2.1 (p.nat a.2.2.2.2.2.2.2.2.1) 0),((p.rdI a.2.2.2.2.2.2.1 (p.nat a.2.2.2.2.2.2.2.2.1) 1),((p.ar .sub .i64 (p.rdI a.2.2.2.2.2.1 (p.nat (p.ar .rem .i64 (p.ar .add .i64 a.2.2.2.2.2.2.2.2.1 (1:Int)) (p.ofNat (p.len a.2.2.2.2.2.1)))) 0) (p.rdI a.2.2.2.2.2.2.1 (p.nat a.2.2.2.2.2.2.2.2.1) 0)),((p.ar .sub .i64 (p.rdI a.2.2.2.2.2.1 (p.nat (p.ar .rem .i64 (p.ar .add .i64 a.2.2.2.2.2.2.2.2.1 (1:Int)) (p.ofNat (p.len a.2.2.2.2.2.1)))) 1) (p.rdI a.2.2.2.2.2.2.1 (p.nat a.2.2.2.2.2.2.2.2.1) 1)),((p.cmp .lss (p.ar .add .i64 (p.ar .mul .i64 (p.ar .sub .i64 (p.rdI a.2.2.2.2.2.1 (p.nat (p.ar .rem .i64 (p.ar .add .i64 a.2.2.2.2.2.2.2.2.1 (1:Int)) (p.ofNat (p.len a.2.2.2.2.2.1)))) 0) (p.rdI a.2.2.2.2.2.2.1 (p.nat a.2.2.2.2.2.2.2.2.1) 0)) (p.ar .sub .i64 a.2.1 (p.ar .mul .i64 (p.rdI a.2.2.2.2.2.2.1 (p.nat a.2.2.2.2.2.2.2.2.1) 0) a.2.2.2.1))) (p.ar .mul .i64 (p.ar .sub .i64 (p.rdI a.2.2.2.2.2.1 (p.nat (p.ar .rem .i64 (p.ar .add .i64 a.2.2.2.2.2.2.2.2.1 (1:Int)) (p.ofNat (p.len a.2.2.2.2.2.1)))) 1) (p.rdI a.2.2.2.2.2.2.1 (p.nat a.2.2.2.2.2.2.2.2.1) 1)) (p.ar .sub .i64 a.2.2.1 (p.ar .mul .i64 (p.rdI a.2.2.2.2.2.2.1 (p.nat a.2.2.2.2.2.2.2.2.1) 1) a.2.2.2.1)))) (0:Int)),())))))))))))) (
 opt.ret _ (a.1,(a.2.1,(a.2.2.1,(a.2.2.2.1,(a.2.2.2.2.1,(a.2.2.2.2.2.1,((p.rdI a.2.2.2.2.2.2.1 (p.nat a.2.2.2.2.2.2.2.2.1) 0),((p.rdI a.2.2.2.2.2.2.1 (p.nat a.2.2.2.2.2.2.2.2.1) 1),((p.ar .sub .i64 (p.rdI a.2.2.2.2.2.1 (p.nat (p.ar .rem .i64 (p.ar .add .i64 a.2.2.2.2.2.2.2.2.1 (1:Int)) (p.ofNat (p.len a.2.2.2.2.2.1)))) 0) (p.rdI a.2.2.2.2.2.2.1 (p.nat a.2.2.2.2.2.2.2.2.1) 0)),((p.ar .sub .i64 (p.rdI a.2.2.2.2.2.1 (p.nat (p.ar .rem .i64 (p.ar .add .i64 a.2.2.2.2.2.2.2.2.1 (1:Int)) (p.ofNat (p.len a.2.2.2.2.2.1)))) 1) (p.rdI a.2.2.2.2.2.2.1 (p.nat a.2.2.2.2.2.2.2.2.1) 1)),(Bool.false,()))))))))))))))) fun b=>
 opt.ask _ b.2.2.2.2.2.2.2.2.2.2.1 (
 opt.ret _ (Sum.inr (Sum.inr (Sum.inl (b.1,(b.2.1,(b.2.2.1,(b.2.2.2.1,(Bool.false,(b.2.2.2.2.2.1,())))))))))) (
 opt.ret _ (Sum.inl (b.1,(b.2.1,(b.2.2.1,(b.2.2.2.1,(b.2.2.2.2.1,(b.2.2.2.2.2.1,(a.2.2.2.2.2.2.1,(a.2.2.2.2.2.2.2.1,((p.ar .add .i64 a.2.2.2.2.2.2.2.2.1 (1:Int)),()))))))))))))) (
 opt.ret _ (Sum.inr (Sum.inr (Sum.inr (a.1,(a.2.1,(a.2.2.1,(a.2.2.2.1,(a.2.2.2.2.1,(a.2.2.2.2.2.1,())))))))))))
def g57 (it:It):(p:Prim)→(LD×T5)→Option T2:=
 fun p x=>
 opt.ask _ (p.cmp .eql (p.ofNat (p.len x.1)) (1:Int)) (
 opt.need _ (p.rowOk x.1 (p.nat (0:Int)) [ci,ci])<|
 opt.need _ (p.and Bool.true (p.and Bool.true Bool.true))<|
 opt.ret _ ((bif (p.cmp .eql x.2.1 (p.ar .mul .i64 (p.rdI x.1 (p.nat (0:Int)) 0) x.2.2.2.1)) then (bif (p.cmp .eql x.2.2.1 (p.ar .mul .i64 (p.rdI x.1 (p.nat (0:Int)) 1) x.2.2.2.1)) then Bool.true else Bool.false) else Bool.false),())) (
 opt.alt T2 T2 _ (
 opt.run (((Bool×Unit)⊕(Bool×Unit))) (
 opt.alt ((LD×T12)) (((LD×T12)⊕(LD×T12))) _ (
 it _ _ (v8m p) (x.1,(x.2.1,(x.2.2.1,(x.2.2.2.1,(Bool.false,(x.1,(x.1,((p.ofNat (p.len x.1)),((0:Int),())))))))))) (fun a=>
 opt.ret _ (Sum.inl (a.2.2.2.2.1,()))) (fun b=>
 opt.alt ((LD×T12)) ((LD×T12)) _ (some b) (fun c=>
 opt.ret _ (Sum.inr (c.2.2.2.2.1,()))) (fun d=>
 opt.bnd ((LD×T12)) _ (some d) fun e=>
 opt.ret _ (Sum.inl (e.2.2.2.2.1,())))))) (fun f=>
 opt.ret _ (Bool.true,())) (fun g=>
 opt.bnd T2 _ (some g) fun h=>
 opt.ret _ (h.1,())))
def G57:=g57 it0
theorem v5c:CtrOk PG w2r (G57 std):=okF (a:=an57) (l:=la57) (gN) (by kernel_rfl) fun _ _=>by kernel_rfl
def w64:Ctr:=
 ⟨77,[.int .i64],[],[(.ret,⟨[(0, .int .i64)],[],1⟩)]⟩
def la77:List LA:=
 []
def ja77:List JA:=
 []
def v60:List CF:=
 []
def an77:Anns:=
 ⟨v60,ja77,[]⟩
def G77:(p:Prim)→T1→Option T0:=
 fun p x=>
 opt.ret _ ((p.mm .gtr x.1 (p.ar .sub .i64 (0:Int) x.1)),())
theorem v88:CtrOk PG w64 (G77 std):=okF (a:=an77) (l:=la77) (gN) (by kernel_rfl) fun _ _=>by kernel_rfl
def w63:Ctr:=
 ⟨93,[.list 1],[],[(.ret,⟨[(0, .int .i64)],[],1⟩)]⟩
def la93:List LA:=
 [⟨93,[false,true,false,true,true],0,⟨⟨[(3, .int .i64),(6, .list 1),(7, .int .i64),(8, .int .i64)],[],22⟩,[((AX.exit 0),⟨[(3, .int .i64)],[],22⟩)]⟩⟩,
 ⟨93,[false,true,true,false,false,true,true,false,false,true,false,true,true],0,⟨⟨[(3, .int .i64),(5, .int .i64),(6, .list 1),(7, .int .i64),(8, .int .i64)],[],22⟩,[((AX.exit 2),⟨[(3, .int .i64),(6, .list 1),(7, .int .i64),(8, .int .i64)],[],22⟩)]⟩⟩]
def ja93:List JA:=
 []
def v6q:List CF:=
 [⟨w64,G77⟩]
def an93:Anns:=
 ⟨v6q,ja93,[]⟩
def v8f (p:Prim):T52→Option ((Int×(Int×(LD×(Int×(Int×Unit)))))⊕(Int×(LD×(Int×(Int×Unit))))):=
 fun a=>opt.run _ (
 opt.ask _ (p.cmp .neq a.2.1 (0:Int)) (
 opt.need _ (p.cmp .neq a.2.1 (0:Int))<|
 opt.ret _ (Sum.inl (a.2.1,((p.ar .rem .i64 a.1 a.2.1),(a.2.2.1,(a.2.2.2.1,(a.2.2.2.2.1,()))))))) (
 opt.ret _ (Sum.inr (a.1,(a.2.2.1,(a.2.2.2.1,(a.2.2.2.2.1,())))))))
def w7g (it:It) (p:Prim):T47→Option ((Int×(LD×(Int×(Int×Unit))))⊕(Int×Unit)):=
 fun a=>opt.run _ (
 opt.ask _ (p.cmp .lss a.2.2.2.1 a.2.2.1) (
 opt.need _ (p.rowOk a.2.1 (p.nat a.2.2.2.1) [ci])<|
 opt.need _ (p.cmp .geq a.2.2.2.1 (0:Int))<|
 opt.bnd T0 _ (G77 p ((p.rdI a.2.1 (p.nat a.2.2.2.1) 0),())) fun b=>
 opt.bnd ((Int×(LD×(Int×(Int×Unit))))) _ (
 it _ _ (v8f p) (a.1,(b.1,(a.2.1,(a.2.2.1,(a.2.2.2.1,())))))) fun c=>
 opt.ret _ (Sum.inl (c.1,(c.2.1,(c.2.2.1,((p.ar .add .i64 c.2.2.2.1 (1:Int)),())))))) (
 opt.ret _ (Sum.inr (a.1,()))))
def g93 (it:It):(p:Prim)→(LD×Unit)→Option T0:=
 fun p x=>
 opt.bnd T0 _ (
 it _ _ (w7g it p) ((0:Int),(x.1,((p.ofNat (p.len x.1)),((0:Int),()))))) fun a=>
 opt.ret _ (a.1,())
def G93:=g93 it0
theorem v86:CtrOk PG w63 (G93 std):=okF (a:=an93) (l:=la93) (gC v88 (gN)) (by kernel_rfl) fun _ _=>by kernel_rfl
def w66:Ctr:=
 ⟨65,[.int .i64, .int .i64],[],[(.ret,⟨[(0, .agg [.int .i64, .int .i64])],[],1⟩)]⟩
def la65:List LA:=
 []
def ja65:List JA:=
 []
def v67:List CF:=
 [⟨w63,G93⟩]
def an65:Anns:=
 ⟨v67,ja65,[]⟩
def g65 (it:It):(p:Prim)→T3→Option T4:=
 fun p x=>
 opt.need _ (p.and (p.leN (p.add 0 2) (p.len [[(D.int .i64 x.1)],[(D.int .i64 x.2.1)]])) Bool.true)<|
 opt.bnd T0 _ (g93 it p ((p.cut [[(D.int .i64 x.1)],[(D.int .i64 x.2.1)]] 0 2),())) fun a=>
 opt.need _ (p.cmp .neq a.1 (0:Int))<|
 opt.need _ (p.cmp .neq a.1 (0:Int))<|
 opt.ret _ ((p.ar .quo .i64 x.1 a.1),((p.ar .quo .i64 x.2.1 a.1),()))
def G65:=g65 it0
theorem v9a:CtrOk PG w66 (G65 std):=okF (a:=an65) (l:=la65) (gC v86 (gN)) (by kernel_rfl) fun _ _=>by kernel_rfl
def z4q:Ctr:=
 ⟨71,[.agg [.int .i64, .int .i64], .agg [.int .i64, .int .i64]],[],[(.ret,⟨[(0, .bool)],[],1⟩)]⟩
def la71:List LA:=
 []
def ja71:List JA:=
 [⟨71,[false,false,true,true,true,true],0,[(AX.normal,⟨[(2, .bptr 0 0),(3, .bptr 1 0),(7, .int .i64),(8, .int .i64),(40, .bool)],[.box [.int .i64, .int .i64], .box [.int .i64, .int .i64]],53⟩)]⟩]
def w6f:(Prim→Tup (z4q).scs→Option (STup (scss (z4q).outs)))→List CF:=
 fun R=>[⟨z4q,R⟩]
def an71:(Prim→Tup (z4q).scs→Option (STup (scss (z4q).outs)))→Anns:=
 fun R=>⟨w6f R,ja71,[]⟩
def G71:(Prim→Tup (z4q).scs→Option (STup (scss (z4q).outs)))→(p:Prim)→T9→Option T2:=
 fun R=>fun p x=>
 opt.need _ (p.cmp .neq x.2.1 (0:Int))<|
 opt.need _ (p.cmp .neq x.2.2.2.1 (0:Int))<|
 opt.ask _ (p.cmp .neq (p.ar .quo .i64 x.1 x.2.1) (p.ar .quo .i64 x.2.2.1 x.2.2.2.1)) (
 opt.ret _ ((p.cmp .lss (p.ar .quo .i64 x.1 x.2.1) (p.ar .quo .i64 x.2.2.1 x.2.2.2.1)),())) (
 opt.need _ (p.cmp .neq x.2.1 (0:Int))<|
 opt.need _ (p.cmp .neq x.2.2.2.1 (0:Int))<|
 opt.bnd T45 _ (
 opt.run T45 (
 opt.ask _ (p.cmp .eql (p.ar .rem .i64 x.1 x.2.1) (0:Int)) (
 opt.ret _ (x.1,(x.2.1,(x.2.2.1,(x.2.2.2.1,((p.ar .rem .i64 x.1 x.2.1),((p.ar .rem .i64 x.2.2.1 x.2.2.2.1),(Bool.true,())))))))) (
 opt.ret _ (x.1,(x.2.1,(x.2.2.1,(x.2.2.2.1,((p.ar .rem .i64 x.1 x.2.1),((p.ar .rem .i64 x.2.2.1 x.2.2.2.1),((p.cmp .eql (p.ar .rem .i64 x.2.2.1 x.2.2.2.1) (0:Int)),())))))))))) fun a=>
 opt.ask _ a.2.2.2.2.2.2.1 (
 opt.ret _ ((p.cmp .lss a.2.2.2.2.1 a.2.2.2.2.2.1),())) (
 opt.bnd T2 _ (R p (a.2.2.2.1,(a.2.2.2.2.2.1,(a.2.1,(a.2.2.2.2.1,()))))) fun b=>
 opt.ret _ (b.1,())))
def v81:Nat→Prim→Tup (z4q).scs→Option (STup (scss (z4q).outs)):=
 fun n=>Nat.rec (motive:=fun _=>(Prim→Tup (z4q).scs→Option (STup (scss (z4q).outs)))) (fun _ _=>none) (fun _ f p x=>G71 f p x) n
def F71:Prim→Tup (z4q).scs→Option (STup (scss (z4q).outs)):=
 v81 100
theorem eq71 (R:(Prim→Tup (z4q).scs→Option (STup (scss (z4q).outs)))) (p:Prim) (x:Tup (z4q).scs):bodyRun opt p (autoEnv Go.Proofs.Try.prog) (mkOrc opt p (autoEnv Go.Proofs.Try.prog) 400 (an71 R) la71) 400 z4q x=G71 R p x:=by kernel_rfl
theorem v6n (R:(Prim→Tup (z4q).scs→Option (STup (scss (z4q).outs)))) (hR:CtrOk Go.Proofs.Try.prog z4q (R std)):GamOk Go.Proofs.Try.prog (w6f R):=by
 intro cf h
 simp only [w6f,List.mem_cons,List.not_mem_nil,or_false] at h
 rcases h with rfl
 ·exact hR
theorem x4e:z2m Go.Proofs.Try.prog 71:=enters_auto (b:=_) rfl (by kernel_rfl)
theorem x76 (R:(Prim→Tup (z4q).scs→Option (STup (scss (z4q).outs)))) (hR:CtrOk Go.Proofs.Try.prog z4q (R std)):CtrOk Go.Proofs.Try.prog z4q (fun x=>G71 R std x):=ctr_of_body (autoEnv_ok follows_mixed) (mkOrc_ok (autoEnv_ok follows_mixed) (v6n R hR) _) x4e (fun x=>eq71 R std x)
theorem w3y:∀ n,CtrOk Go.Proofs.Try.prog z4q (v81 n std)
 |0=>⟨x4e,fun x y h=>nomatch h⟩
 |n+1=>x76 (v81 n) (w3y n)
theorem ok71:CtrOk Go.Proofs.Try.prog z4q (F71 std):=w3y 100
def v2e:Ctr:=
 ⟨76,[.agg [.int .i64, .int .i64, .int .i64, .int .i64], .agg [.int .i64, .int .i64, .int .i64, .int .i64]],[],[(.ret,⟨[(0, .tuple [.agg [.int .i64, .int .i64, .int .i64], .bool])],[],1⟩)]⟩
def la76:List LA:=
 []
def ja76:List JA:=
 [⟨76,[true,false,true,true,true,true],0,[(AX.normal,⟨[(2, .bptr 0 0),(4, .bptr 1 0),(6, .int .i64),(8, .int .i64),(9, .int .i64)],[.box [.int .i64, .int .i64, .int .i64, .int .i64], .box [.int .i64, .int .i64, .int .i64]],101⟩)]⟩,
 ⟨76,[false,false,true,true,true,true,true],0,[(AX.normal,⟨[(2, .bptr 0 0),(4, .bptr 1 0),(6, .int .i64),(8, .int .i64),(57, .bool)],[.box [.int .i64, .int .i64, .int .i64, .int .i64], .box [.int .i64, .int .i64, .int .i64]],101⟩)]⟩]
def v61:List CF:=
 [⟨w63,G93⟩]
def an76:Anns:=
 ⟨v61,ja76,[]⟩
def g76 (it:It):(p:Prim)→(Int×(Int×(Int×(Int×(Int×(Int×(Int×(Int×Unit))))))))→Option T20:=
 fun p x=>
 opt.bnd T64 _ (
 opt.run T64 (
 opt.ask _ (p.cmp .lss (p.ar .sub .i64 (p.ar .mul .i64 x.2.2.1 x.2.2.2.2.2.2.2.1) (p.ar .mul .i64 x.2.2.2.1 x.2.2.2.2.2.2.1)) (0:Int)) (
 opt.ret _ (x.1,(x.2.1,(x.2.2.1,(x.2.2.2.1,((0:Int),((0:Int),((0:Int),((p.ar .sub .i64 (0:Int) (p.ar .sub .i64 (p.ar .mul .i64 x.2.2.1 x.2.2.2.2.2.2.2.1) (p.ar .mul .i64 x.2.2.2.1 x.2.2.2.2.2.2.1))),((p.ar .sub .i64 (0:Int) (p.ar .sub .i64 (p.ar .mul .i64 (p.ar .sub .i64 x.2.2.2.2.1 x.1) x.2.2.2.2.2.2.2.1) (p.ar .mul .i64 (p.ar .sub .i64 x.2.2.2.2.2.1 x.2.1) x.2.2.2.2.2.2.1))),((p.ar .sub .i64 (0:Int) (p.ar .sub .i64 (p.ar .mul .i64 (p.ar .sub .i64 x.2.2.2.2.1 x.1) x.2.2.2.1) (p.ar .mul .i64 (p.ar .sub .i64 x.2.2.2.2.2.1 x.2.1) x.2.2.1))),()))))))))))) (
 opt.ret _ (x.1,(x.2.1,(x.2.2.1,(x.2.2.2.1,((0:Int),((0:Int),((0:Int),((p.ar .sub .i64 (p.ar .mul .i64 x.2.2.1 x.2.2.2.2.2.2.2.1) (p.ar .mul .i64 x.2.2.2.1 x.2.2.2.2.2.2.1)),((p.ar .sub .i64 (p.ar .mul .i64 (p.ar .sub .i64 x.2.2.2.2.1 x.1) x.2.2.2.2.2.2.2.1) (p.ar .mul .i64 (p.ar .sub .i64 x.2.2.2.2.2.1 x.2.1) x.2.2.2.2.2.2.1)),((p.ar .sub .i64 (p.ar .mul .i64 (p.ar .sub .i64 x.2.2.2.2.1 x.1) x.2.2.2.1) (p.ar .mul .i64 (p.ar .sub .i64 x.2.2.2.2.2.1 x.2.1) x.2.2.1)),()))))))))))))) fun a=>
 opt.bnd T31 _ (
 opt.run T31 (
 opt.ask _ (p.cmp .eql a.2.2.2.2.2.2.2.1 (0:Int)) (
 opt.ret _ (a.1,(a.2.1,(a.2.2.1,(a.2.2.2.1,(a.2.2.2.2.1,(a.2.2.2.2.2.1,(a.2.2.2.2.2.2.1,(a.2.2.2.2.2.2.2.1,(a.2.2.2.2.2.2.2.2.1,(Bool.true,()))))))))))) (
 opt.ask _ (p.cmp .lss a.2.2.2.2.2.2.2.2.1 (0:Int)) (
 opt.ret _ (a.1,(a.2.1,(a.2.2.1,(a.2.2.2.1,(a.2.2.2.2.1,(a.2.2.2.2.2.1,(a.2.2.2.2.2.2.1,(a.2.2.2.2.2.2.2.1,(a.2.2.2.2.2.2.2.2.1,(Bool.true,()))))))))))) (
 opt.ask _ (p.cmp .gtr a.2.2.2.2.2.2.2.2.1 a.2.2.2.2.2.2.2.1) (
 opt.ret _ (a.1,(a.2.1,(a.2.2.1,(a.2.2.2.1,(a.2.2.2.2.1,(a.2.2.2.2.2.1,(a.2.2.2.2.2.2.1,(a.2.2.2.2.2.2.2.1,(a.2.2.2.2.2.2.2.2.1,(Bool.true,()))))))))))) (
 opt.ask _ (p.cmp .lss a.2.2.2.2.2.2.2.2.2.1 (0:Int)) (
 opt.ret _ (a.1,(a.2.1,(a.2.2.1,(a.2.2.2.1,(a.2.2.2.2.1,(a.2.2.2.2.2.1,(a.2.2.2.2.2.2.1,(a.2.2.2.2.2.2.2.1,(a.2.2.2.2.2.2.2.2.1,(Bool.true,()))))))))))) (
 opt.ret _ (a.1,(a.2.1,(a.2.2.1,(a.2.2.2.1,(a.2.2.2.2.1,(a.2.2.2.2.2.1,(a.2.2.2.2.2.2.1,(a.2.2.2.2.2.2.2.1,(a.2.2.2.2.2.2.2.2.1,((p.cmp .gtr a.2.2.2.2.2.2.2.2.2.1 a.2.2.2.2.2.2.2.1),())))))))))))))))) fun b=>
 opt.ask _ b.2.2.2.2.2.2.2.2.2.1 (
 opt.ret _ ((0:Int),((0:Int),((0:Int),(Bool.false,()))))) (
 opt.need _ (p.and (p.leN (p.add 0 3) (p.len [[(D.int .i64 (p.ar .add .i64 (p.ar .mul .i64 b.1 b.2.2.2.2.2.2.2.1) (p.ar .mul .i64 b.2.2.1 b.2.2.2.2.2.2.2.2.1)))],[(D.int .i64 (p.ar .add .i64 (p.ar .mul .i64 b.2.1 b.2.2.2.2.2.2.2.1) (p.ar .mul .i64 b.2.2.2.1 b.2.2.2.2.2.2.2.2.1)))],[(D.int .i64 b.2.2.2.2.2.2.2.1)]])) Bool.true)<|
 opt.bnd T0 _ (g93 it p ((p.cut [[(D.int .i64 (p.ar .add .i64 (p.ar .mul .i64 b.1 b.2.2.2.2.2.2.2.1) (p.ar .mul .i64 b.2.2.1 b.2.2.2.2.2.2.2.2.1)))],[(D.int .i64 (p.ar .add .i64 (p.ar .mul .i64 b.2.1 b.2.2.2.2.2.2.2.1) (p.ar .mul .i64 b.2.2.2.1 b.2.2.2.2.2.2.2.2.1)))],[(D.int .i64 b.2.2.2.2.2.2.2.1)]] 0 3),())) fun c=>
 opt.need _ (p.cmp .neq c.1 (0:Int))<|
 opt.need _ (p.cmp .neq c.1 (0:Int))<|
 opt.need _ (p.cmp .neq c.1 (0:Int))<|
 opt.ret _ ((p.ar .quo .i64 (p.ar .add .i64 (p.ar .mul .i64 b.1 b.2.2.2.2.2.2.2.1) (p.ar .mul .i64 b.2.2.1 b.2.2.2.2.2.2.2.2.1)) c.1),((p.ar .quo .i64 (p.ar .add .i64 (p.ar .mul .i64 b.2.1 b.2.2.2.2.2.2.2.1) (p.ar .mul .i64 b.2.2.2.1 b.2.2.2.2.2.2.2.2.1)) c.1),((p.ar .quo .i64 b.2.2.2.2.2.2.2.1 c.1),(Bool.true,())))))
def G76:=g76 it0
theorem ok76:CtrOk PG v2e (G76 std):=okF (a:=an76) (l:=la76) (gC v86 (gN)) (by kernel_rfl) fun _ _=>by kernel_rfl
def v2h:Ctr:=
 ⟨68,[.agg [.int .i64, .int .i64], .agg [.int .i64, .int .i64, .int .i64, .int .i64]],[],[(.ret,⟨[(0, .tuple [.agg [.int .i64, .int .i64], .bool])],[],1⟩)]⟩
def la68:List LA:=
 []
def ja68:List JA:=
 [⟨68,[false,false,true,true,true],0,[(AX.normal,⟨[(3, .bptr 0 0),(4, .bptr 1 0),(6, .bptr 2 0),(8, .int .i64),(29, .bool)],[.box [.int .i64, .int .i64, .int .i64, .int .i64], .box [.int .i64, .int .i64], .box [.int .i64, .int .i64]],40⟩)]⟩]
def v65:List CF:=
 [⟨w66,G65⟩]
def an68:Anns:=
 ⟨v65,ja68,[]⟩
def g68 (it:It):(p:Prim)→T53→Option T18:=
 fun p x=>
 opt.bnd T31 _ (
 opt.run T31 (
 opt.ask _ (p.cmp .leq (p.ar .add .i64 (p.ar .mul .i64 x.2.2.2.2.1 (p.ar .sub .i64 x.1 x.2.2.1)) (p.ar .mul .i64 x.2.2.2.2.2.1 (p.ar .sub .i64 x.2.1 x.2.2.2.1))) (0:Int)) (
 opt.ret _ (x.2.2.1,(x.2.2.2.1,(x.2.2.2.2.1,(x.2.2.2.2.2.1,((0:Int),((0:Int),((p.ar .sub .i64 x.1 x.2.2.1),((p.ar .sub .i64 x.2.1 x.2.2.2.1),((p.ar .add .i64 (p.ar .mul .i64 x.2.2.2.2.1 x.2.2.2.2.1) (p.ar .mul .i64 x.2.2.2.2.2.1 x.2.2.2.2.2.1)),(Bool.true,()))))))))))) (
 opt.ret _ (x.2.2.1,(x.2.2.2.1,(x.2.2.2.2.1,(x.2.2.2.2.2.1,((0:Int),((0:Int),((p.ar .sub .i64 x.1 x.2.2.1),((p.ar .sub .i64 x.2.1 x.2.2.2.1),((p.ar .add .i64 (p.ar .mul .i64 x.2.2.2.2.1 x.2.2.2.2.1) (p.ar .mul .i64 x.2.2.2.2.2.1 x.2.2.2.2.2.1)),((p.cmp .geq (p.ar .add .i64 (p.ar .mul .i64 x.2.2.2.2.1 (p.ar .sub .i64 x.1 x.2.2.1)) (p.ar .mul .i64 x.2.2.2.2.2.1 (p.ar .sub .i64 x.2.1 x.2.2.2.1))) (p.ar .add .i64 (p.ar .mul .i64 x.2.2.2.2.1 x.2.2.2.2.1) (p.ar .mul .i64 x.2.2.2.2.2.1 x.2.2.2.2.2.1))),()))))))))))))) fun a=>
 opt.ask _ a.2.2.2.2.2.2.2.2.2.1 (
 opt.ret _ ((0:Int),((0:Int),(Bool.false,())))) (
 opt.bnd T4 _ (g65 it p ((p.ar .mul .i64 (p.ar .sub .i64 (p.ar .mul .i64 a.2.2.1 a.2.2.2.2.2.2.2.1) (p.ar .mul .i64 a.2.2.2.1 a.2.2.2.2.2.2.1)) (p.ar .sub .i64 (p.ar .mul .i64 a.2.2.1 a.2.2.2.2.2.2.2.1) (p.ar .mul .i64 a.2.2.2.1 a.2.2.2.2.2.2.1))),(a.2.2.2.2.2.2.2.2.1,()))) fun b=>
 opt.ret _ (b.1,(b.2.1,(Bool.true,()))))
def G68:=g68 it0
theorem ok68:CtrOk PG v2h (G68 std):=okF (a:=an68) (l:=la68) (gC v9a (gN)) (by kernel_rfl) fun _ _=>by kernel_rfl
end Go.Am
end
noncomputable section
namespace Go.Am
def v2x:Ctr:=
 ⟨21,[.agg [.list 2, .list 1], .agg [.int .i64, .int .i64]],[],[(.ret,⟨[(0, .tuple [.bool, .int .i64])],[],1⟩)]⟩
def la21:List LA:=
 []
def ja21:List JA:=
 []
def v7w:List CF:=
 [⟨w2r,G57⟩,⟨w2s,G53⟩,⟨x6f,G48⟩]
def an21:Anns:=
 ⟨v7w,ja21,[]⟩
def g21 (it:It):(p:Prim)→(LD×(LD×T3))→Option ((Bool×(Int×Unit))):=
 fun p x=>
 opt.alt T0 ((LD×(LD×(LD×T1)))) _ (g48 it p (x.1,(x.2.1,()))) (fun a=>
 opt.ask _ (p.cmp .neq a.1 (0:Int)) (
 opt.ret _ (Bool.false,(a.1,()))) (
 opt.need _ (p.and Bool.true (p.and Bool.true (p.and (p.leN (p.add 0 1) (p.len [[(D.int .i64 x.2.2.1),(D.int .i64 x.2.2.2.1)]])) Bool.true)))<|
 opt.bnd T2 _ (g53 it p ((-1099511627776:Int),((1099511627776:Int),((p.cut [[(D.int .i64 x.2.2.1),(D.int .i64 x.2.2.2.1)]] 0 1),())))) fun b=>
 opt.ask _ (bif b.1 then Bool.false else Bool.true) (
 opt.ret _ (Bool.false,((3:Int),()))) (
 opt.no _ 41))) (fun c=>
 opt.bnd ((LD×(LD×(LD×T1)))) _ (some c) fun d=>
 opt.ask _ (p.cmp .neq d.2.2.2.1 (0:Int)) (
 opt.ret _ (Bool.false,(d.2.2.2.1,()))) (
 opt.need _ (p.and Bool.true (p.and Bool.true (p.and (p.leN (p.add 0 1) (p.len [[(D.int .i64 x.2.2.1),(D.int .i64 x.2.2.2.1)]])) Bool.true)))<|
 opt.bnd T2 _ (g53 it p ((-1099511627776:Int),((1099511627776:Int),((p.cut [[(D.int .i64 x.2.2.1),(D.int .i64 x.2.2.2.1)]] 0 1),())))) fun e=>
 opt.ask _ (bif e.1 then Bool.false else Bool.true) (
 opt.ret _ (Bool.false,((3:Int),()))) (
 opt.bnd T2 _ (g57 it p (d.2.2.1,(x.2.2.1,(x.2.2.2.1,((1:Int),()))))) fun f=>
 opt.ret _ (f.1,((0:Int),())))))
def G21:=g21 it0
theorem ok21:CtrOk PG v2x (G21 std):=okF (a:=an21) (l:=la21) (gC v5c (gC v5d (gC w85 (gN)))) (by kernel_rfl) fun _ _=>by kernel_rfl
def v2w:Ctr:=
 ⟨23,[.agg [.list 2, .list 1], .list 2],[],[(.ret,⟨[(0, .tuple [.agg [.int .i64, .int .i64], .int .i64])],[],1⟩)]⟩
def la23:List LA:=
 [⟨23,[false,true,false,true,true,true,true],0,⟨⟨[(4, .bptr 0 0),(8, .list 2),(37, .list 2),(38, .int .i64),(39, .int .i64)],[.box [.int .i64, .int .i64]],54⟩,[(AX.ret,⟨[(4, .bptr 0 0),(5, .int .i64)],[.box [.int .i64, .int .i64]],54⟩),((AX.exit 1),⟨[(4, .bptr 0 0)],[.box [.int .i64, .int .i64]],54⟩)]⟩⟩]
def ja23:List JA:=
 [⟨23,[true,true,true,false,false,true,true],0,[(AX.ret,⟨[(4, .bptr 0 0),(5, .int .i64)],[.box [.int .i64, .int .i64]],54⟩),(AX.normal,⟨[(1, .list 2),(4, .bptr 0 0),(6, .nilp)],[.box [.int .i64, .int .i64]],54⟩),(AX.normal,⟨[(1, .list 2),(4, .bptr 0 0),(6, .bptr 1 0)],[.box [.int .i64, .int .i64], .box [.list 2, .list 1, .list 2]],54⟩)]⟩,
 ⟨23,[true,false,false,true,true],0,[(AX.ret,⟨[(4, .bptr 0 0),(5, .int .i64)],[.box [.int .i64, .int .i64]],54⟩),(AX.normal,⟨[(1, .list 2),(4, .bptr 0 0),(6, .nilp)],[.box [.int .i64, .int .i64]],54⟩),(AX.normal,⟨[(1, .list 2),(4, .bptr 0 0),(6, .bptr 1 0)],[.box [.int .i64, .int .i64], .box [.list 2, .list 1, .list 2]],54⟩)]⟩]
def v7v:List CF:=
 [⟨w2r,G57⟩,⟨w68,G59⟩,⟨w67,G60⟩,⟨w2s,G53⟩,⟨w69,G50⟩,⟨x6f,G48⟩]
def an23:Anns:=
 ⟨v7v,ja23,[]⟩
def w70 (it:It) (p:Prim):T65→Option T66:=
 fun a=>opt.run _ (
 opt.ask _ (p.cmp .lss a.2.2.2.2.2.1 a.2.2.2.2.1) (
 opt.need _ (p.rowOk a.2.2.2.1 (p.nat a.2.2.2.2.2.1) [ci,ci])<|
 opt.need _ (p.cmp .geq a.2.2.2.2.2.1 (0:Int))<|
 opt.bnd T2 _ (g57 it p (a.2.2.1,((p.rdI a.2.2.2.1 (p.nat a.2.2.2.2.2.1) 0),((p.rdI a.2.2.2.1 (p.nat a.2.2.2.2.2.1) 1),((1:Int),()))))) fun b=>
 opt.ask _ (bif b.1 then Bool.false else Bool.true) (
 opt.ret _ (Sum.inr (Sum.inl ((p.rdI a.2.2.2.1 (p.nat a.2.2.2.2.2.1) 0),((p.rdI a.2.2.2.1 (p.nat a.2.2.2.2.2.1) 1),((0:Int),())))))) (
 opt.ret _ (Sum.inl (a.1,(a.2.1,(a.2.2.1,(a.2.2.2.1,(a.2.2.2.2.1,((p.ar .add .i64 a.2.2.2.2.2.1 (1:Int)),()))))))))) (
 opt.ret _ (Sum.inr (Sum.inr (a.1,(a.2.1,()))))))
def w71 (it:It) (p:Prim):T65→Option T66:=
 fun a=>opt.run _ (
 opt.ask _ (p.cmp .lss a.2.2.2.2.2.1 a.2.2.2.2.1) (
 opt.need _ (p.rowOk a.2.2.2.1 (p.nat a.2.2.2.2.2.1) [ci,ci])<|
 opt.need _ (p.cmp .geq a.2.2.2.2.2.1 (0:Int))<|
 opt.bnd T2 _ (g57 it p (a.2.2.1,((p.rdI a.2.2.2.1 (p.nat a.2.2.2.2.2.1) 0),((p.rdI a.2.2.2.1 (p.nat a.2.2.2.2.2.1) 1),((1:Int),()))))) fun b=>
 opt.ask _ (bif b.1 then Bool.false else Bool.true) (
 opt.ret _ (Sum.inr (Sum.inl ((p.rdI a.2.2.2.1 (p.nat a.2.2.2.2.2.1) 0),((p.rdI a.2.2.2.1 (p.nat a.2.2.2.2.2.1) 1),((0:Int),())))))) (
 opt.ret _ (Sum.inl (a.1,(a.2.1,(a.2.2.1,(a.2.2.2.1,(a.2.2.2.2.1,((p.ar .add .i64 a.2.2.2.2.2.1 (1:Int)),()))))))))) (
 opt.ret _ (Sum.inr (Sum.inr (a.1,(a.2.1,()))))))
def g23 (it:It):(p:Prim)→(LD×(LD×(LD×Unit)))→Option T7:=
 fun p x=>
 opt.alt T0 ((LD×(LD×(LD×T1)))) _ (g48 it p (x.1,(x.2.1,()))) (fun a=>
 opt.alt T7 T32 _ (
 opt.run T33 (
 opt.ask _ (p.cmp .neq a.1 (0:Int)) (
 opt.ret _ (Sum.inl ((0:Int),((0:Int),(a.1,()))))) (
 opt.bnd T2 _ (G50 p (x.2.2.1,())) fun b=>
 opt.alt T7 T32 _ (
 opt.run T33 (
 opt.ask _ (bif b.1 then Bool.false else Bool.true) (
 opt.ret _ (Sum.inl ((0:Int),((0:Int),((6:Int),()))))) (
 opt.bnd T2 _ (g53 it p ((-10000:Int),((10000:Int),(x.2.2.1,())))) fun c=>
 opt.ask _ (bif c.1 then Bool.false else Bool.true) (
 opt.ret _ (Sum.inl ((0:Int),((0:Int),((3:Int),()))))) (
 opt.ret _ (Sum.inr (Sum.inl ((0:Int),((0:Int),(x.2.2.1,()))))))))) (fun d=>
 opt.ret _ (Sum.inl (d.1,(d.2.1,(d.2.2.1,()))))) (fun e=>
 opt.alt T21 T15 _ (some e) (fun f=>
 opt.ret _ (Sum.inr (Sum.inl (f.1,(f.2.1,(f.2.2.1,())))))) (fun g=>
 opt.bnd T15 _ (some g) fun h=>
 opt.ret _ (Sum.inr (Sum.inr (h.1,(h.2.1,(h.2.2.1,(h.2.2.2.1,(h.2.2.2.2.1,(h.2.2.2.2.2.1,()))))))))))))) (fun i=>
 opt.ret _ (i.1,(i.2.1,(i.2.2.1,())))) (fun j=>
 opt.alt T21 T15 _ (some j) (fun k=>
 opt.bnd ((LD×Unit)) _ (g60 it p (k.2.2.1,())) fun l=>
 opt.bnd ((LD×Unit)) _ (g59 it p (l.1,())) fun m=>
 opt.no _ 41) (fun n=>
 opt.bnd T15 _ (some n) fun o=>
 opt.bnd ((LD×Unit)) _ (g60 it p (o.2.2.2.2.2.1,())) fun q=>
 opt.bnd ((LD×Unit)) _ (g59 it p (q.1,())) fun r=>
 opt.alt T7 T4 _ (
 it _ _ (w71 it p) (o.1,(o.2.1,(r.1,(o.2.2.2.2.1,((p.ofNat (p.len o.2.2.2.2.1)),((0:Int),()))))))) (fun t=>
 opt.ret _ (t.1,(t.2.1,(t.2.2.1,())))) (fun u=>
 opt.bnd T4 _ (some u) fun v=>
 opt.ret _ ((0:Int),((0:Int),((5:Int),()))))))) (fun w=>
 opt.bnd ((LD×(LD×(LD×T1)))) _ (some w) fun z=>
 opt.alt T7 T32 _ (
 opt.run T33 (
 opt.ask _ (p.cmp .neq z.2.2.2.1 (0:Int)) (
 opt.ret _ (Sum.inl ((0:Int),((0:Int),(z.2.2.2.1,()))))) (
 opt.bnd T2 _ (G50 p (x.2.2.1,())) fun a1=>
 opt.alt T7 T32 _ (
 opt.run T33 (
 opt.ask _ (bif a1.1 then Bool.false else Bool.true) (
 opt.ret _ (Sum.inl ((0:Int),((0:Int),((6:Int),()))))) (
 opt.bnd T2 _ (g53 it p ((-10000:Int),((10000:Int),(x.2.2.1,())))) fun b1=>
 opt.ask _ (bif b1.1 then Bool.false else Bool.true) (
 opt.ret _ (Sum.inl ((0:Int),((0:Int),((3:Int),()))))) (
 opt.ret _ (Sum.inr (Sum.inr ((0:Int),((0:Int),(z.1,(z.2.1,(z.2.2.1,(x.2.2.1,())))))))))))) (fun c1=>
 opt.ret _ (Sum.inl (c1.1,(c1.2.1,(c1.2.2.1,()))))) (fun d1=>
 opt.alt T21 T15 _ (some d1) (fun e1=>
 opt.ret _ (Sum.inr (Sum.inl (e1.1,(e1.2.1,(e1.2.2.1,())))))) (fun f1=>
 opt.bnd T15 _ (some f1) fun g1=>
 opt.ret _ (Sum.inr (Sum.inr (g1.1,(g1.2.1,(g1.2.2.1,(g1.2.2.2.1,(g1.2.2.2.2.1,(g1.2.2.2.2.2.1,()))))))))))))) (fun h1=>
 opt.ret _ (h1.1,(h1.2.1,(h1.2.2.1,())))) (fun i1=>
 opt.alt T21 T15 _ (some i1) (fun j1=>
 opt.bnd ((LD×Unit)) _ (g60 it p (j1.2.2.1,())) fun k1=>
 opt.bnd ((LD×Unit)) _ (g59 it p (k1.1,())) fun l1=>
 opt.no _ 41) (fun m1=>
 opt.bnd T15 _ (some m1) fun n1=>
 opt.bnd ((LD×Unit)) _ (g60 it p (n1.2.2.2.2.2.1,())) fun o1=>
 opt.bnd ((LD×Unit)) _ (g59 it p (o1.1,())) fun q1=>
 opt.alt T7 T4 _ (
 it _ _ (w70 it p) (n1.1,(n1.2.1,(q1.1,(n1.2.2.2.2.1,((p.ofNat (p.len n1.2.2.2.2.1)),((0:Int),()))))))) (fun r1=>
 opt.ret _ (r1.1,(r1.2.1,(r1.2.2.1,())))) (fun t1=>
 opt.bnd T4 _ (some t1) fun u1=>
 opt.ret _ ((0:Int),((0:Int),((5:Int),())))))))
def G23:=g23 it0
theorem ok23:CtrOk PG v2w (G23 std):=okF (a:=an23) (l:=la23) (gC v5c (gC v9c (gC v9b (gC v5d (gC v9d (gC w85 (gN))))))) (by kernel_rfl) fun _ _=>by kernel_rfl
end Go.Am
end
section
namespace M06
def ml (a:Pt) (den:Int):Pt:=(a.1*den,a.2*den)
def InH (S:List Pt) (p:Pt) (den:Int):Prop:=∀ d:Pt,∃ x∈S,0≤crs d (sb p (ml x den))
theorem v41 (p a b:Pt) (k:Int) (d:Pt):crs d (sb p (ml b k))=crs d (sb p (ml a k))+k*crs d (sb a b):=by simp only [crs,sb,ml]; grind
theorem InH.sub {S T:List Pt} {p:Pt} {k:Int} (h:InH S p k) (hs:∀ x∈S,x∈T):InH T p k:=fun d=>by
 obtain ⟨x,hx,h0⟩:=h d
 exact ⟨x,hs x hx,h0⟩
theorem getD_some {α:Type} {l:List α} {i:Nat} {a d:α} (h:l[i]?=some a):l.getD i d=a:=by simp [List.getD_eq_getElem?_getD,h]
end M06
end
section
namespace Go.Am
open M06
def Big (p:Pt):Prop:=z03 (-1099511627776) 1099511627776 p
end Go.Am
end
noncomputable section
namespace Go.Am
def v2d:Ctr:=
 ⟨78,[.list 2, .clo 66 [.agg [.int .i64, .int .i64]] []],[],[(.ret,⟨[(0, .int .i64)],[],1⟩)]⟩
def la78:List LA:=
 [⟨78,[false,true,false,true,true],0,⟨⟨[(1, .clo 66 [.agg [.int .i64, .int .i64]] []),(5, .int .i64),(13, .list 2),(14, .int .i64),(15, .int .i64)],[],26⟩,[((AX.exit 0),⟨[(5, .int .i64)],[],26⟩)]⟩⟩]
def ja78:List JA:=
 []
def v6z:List CF:=
 []
def an78:Anns:=
 ⟨v6z,ja78,[]⟩
def v8g (p:Prim):T44→Option T67:=
 fun a=>opt.run _ (
 opt.ask _ (p.cmp .lss a.2.2.2.2.2.1 a.2.2.2.2.1) (
 opt.need _ (p.rowOk a.2.2.2.1 (p.nat a.2.2.2.2.2.1) [ci,ci])<|
 opt.need _ (p.cmp .geq a.2.2.2.2.2.1 (0:Int))<|
 opt.ret _ (Sum.inl (a.1,(a.2.1,((p.mm .gtr a.2.2.1 (p.ar .add .i64 (p.ar .mul .i64 a.1 (p.rdI a.2.2.2.1 (p.nat a.2.2.2.2.2.1) 0)) (p.ar .mul .i64 a.2.1 (p.rdI a.2.2.2.1 (p.nat a.2.2.2.2.2.1) 1)))),(a.2.2.2.1,(a.2.2.2.2.1,((p.ar .add .i64 a.2.2.2.2.2.1 (1:Int)),())))))))) (
 opt.ret _ (Sum.inr (a.2.2.1,()))))
def g78 (it:It):(p:Prim)→(LD×T3)→Option T0:=
 fun p x=>
 opt.need _ (p.rowOk x.1 (p.nat (0:Int)) [ci,ci])<|
 opt.bnd T0 _ (
 it _ _ (v8g p) (x.2.1,(x.2.2.1,((p.ar .add .i64 (p.ar .mul .i64 x.2.1 (p.rdI x.1 (p.nat (0:Int)) 0)) (p.ar .mul .i64 x.2.2.1 (p.rdI x.1 (p.nat (0:Int)) 1))),(x.1,((p.ofNat (p.len x.1)),((0:Int),()))))))) fun a=>
 opt.ret _ (a.1,())
def G78:=g78 it0
theorem ok78:CtrOk PG v2d (G78 std):=okF (a:=an78) (l:=la78) (gN) (by kernel_rfl) fun _ _=>by kernel_rfl
def v15:Ctr:=
 ⟨92,[.list 2, .list 2, .agg [.int .i64, .int .i64]],[],[(.ret,⟨[(0, .tuple [.int .i64, .bool])],[],1⟩)]⟩
def la92:List LA:=
 []
def ja92:List JA:=
 []
def v6r:List CF:=
 [⟨v2d,G78⟩]
def an92:Anns:=
 ⟨v6r,ja92,[]⟩
def g92 (it:It):(p:Prim)→(LD×(LD×T3))→Option ((Int×(Bool×Unit))):=
 fun p x=>
 opt.bnd T0 _ (g78 it p (x.1,(x.2.2.1,(x.2.2.2.1,())))) fun a=>
 opt.bnd T0 _ (g78 it p (x.2.1,((p.ar .sub .i64 (0:Int) x.2.2.1),((p.ar .sub .i64 (0:Int) x.2.2.2.1),())))) fun b=>
 opt.ret _ (a.1,((p.cmp .lss a.1 (p.ar .sub .i64 (0:Int) b.1)),()))
def G92:=g92 it0
theorem ok92:CtrOk PG v15 (G92 std):=okF (a:=an92) (l:=la92) (gC ok78 (gN)) (by kernel_rfl) fun _ _=>by kernel_rfl
def w2q:Ctr:=
 ⟨63,[.list 2, .list 2],[],[(.ret,⟨[(0, .tuple [.agg [.int .i64, .int .i64, .int .i64], .bool])],[],1⟩)]⟩
def la63:List LA:=
 [⟨63,[false,true,false,true,false,true],0,⟨⟨[(0, .list 2),(1, .list 2),(4, .bptr 0 0),(6, .bptr 1 0),(20, .list 2),(21, .int .i64),(22, .int .i64)],[.box [.int .i64, .int .i64, .int .i64], .box [.vec 2 2], .row [ci,ci]],94⟩,[((AX.exit 0),⟨[(0, .list 2),(1, .list 2),(4, .bptr 0 0),(6, .bptr 1 0)],[.box [.int .i64, .int .i64, .int .i64], .box [.vec 2 2], .row [ci,ci]],94⟩)]⟩⟩,
 ⟨63,[false,true,true,false,false,true,true,false,false,true,false,true,false,true],0,⟨⟨[(0, .list 2),(1, .list 2),(4, .bptr 0 0),(6, .bptr 1 0),(8, .bptr 2 0),(20, .list 2),(21, .int .i64),(22, .int .i64),(26, .list 2),(27, .int .i64),(28, .int .i64)],[.box [.int .i64, .int .i64, .int .i64], .box [.vec 3 2], .box [.int .i64, .int .i64], .row [ci,ci]],94⟩,[((AX.exit 2),⟨[(0, .list 2),(1, .list 2),(4, .bptr 0 0),(6, .bptr 1 0),(20, .list 2),(21, .int .i64),(22, .int .i64)],[.box [.int .i64, .int .i64, .int .i64], .box [.vec 2 2], .row [ci,ci]],94⟩)]⟩⟩,
 ⟨63,[false,true,false,true,true,false,true],0,⟨⟨[(0, .list 2),(1, .list 2),(4, .bptr 0 0),(6, .bptr 1 0),(42, .full 2 1),(43, .int .i64),(44, .int .i64)],[.box [.int .i64, .int .i64, .int .i64], .box [.vec 3 2], .row [(CK.list 2)], .row [ci,ci]],94⟩,[((AX.exit 4),⟨[(0, .list 2),(1, .list 2),(4, .bptr 0 0),(6, .bptr 1 0)],[.box [.int .i64, .int .i64, .int .i64], .box [.vec 2 2], .row [ci,ci]],94⟩)]⟩⟩,
 ⟨94,[false,true],6,⟨⟨[(0, .yld 5),(1, .bptr 4 0),(6, .list 2),(7, .int .i64),(8, .int .i64)],[.box [.int .i64, .int .i64, .int .i64], .box [.vec 6 2], .row [(CK.list 2)], .dead, .box [.list 2], .loop Go.LoopState.ready Option.none 63 [Bool.false,Bool.true,Bool.true,Bool.false,Bool.false,Bool.true,Bool.true,Bool.false,Bool.false,Bool.true,Bool.false,Bool.true,Bool.true,Bool.false,Bool.true] 94 [(49, .clo 94 [] [.bptr 4 0]),(43, .int .i64),(42, .full 2 1),(6, .bptr 1 0),(1, .list 2),(4, .bptr 0 0),(0, .list 2),(44, .int .i64)], .row [ci,ci]],33⟩,[(AX.ret,⟨[],[.box [.int .i64, .int .i64, .int .i64], .box [.vec 6 2], .row [(CK.list 2)], .dead, .box [.list 2], .loop Go.LoopState.ready Option.none 63 [Bool.false,Bool.true,Bool.true,Bool.false,Bool.false,Bool.true,Bool.true,Bool.false,Bool.false,Bool.true,Bool.false,Bool.true,Bool.true,Bool.false,Bool.true] 94 [(49, .clo 94 [] [.bptr 4 0]),(43, .int .i64),(42, .full 2 1),(6, .bptr 1 0),(1, .list 2),(4, .bptr 0 0),(0, .list 2),(44, .int .i64)], .row [ci,ci]],33⟩),((AX.exit 0),⟨[],[.box [.int .i64, .int .i64, .int .i64], .box [.vec 6 2], .row [(CK.list 2)], .dead, .box [.list 2], .loop Go.LoopState.ready Option.none 63 [Bool.false,Bool.true,Bool.true,Bool.false,Bool.false,Bool.true,Bool.true,Bool.false,Bool.false,Bool.true,Bool.false,Bool.true,Bool.true,Bool.false,Bool.true] 94 [(49, .clo 94 [] [.bptr 4 0]),(43, .int .i64),(42, .full 2 1),(6, .bptr 1 0),(1, .list 2),(4, .bptr 0 0),(0, .list 2),(44, .int .i64)], .row [ci,ci]],33⟩)]⟩⟩,
 ⟨63,[false,true,false,true,true,true,true,true,true,false,true],0,⟨⟨[(0, .list 2),(1, .list 2),(4, .bptr 0 0),(14, .bool),(15, .bptr 1 0),(71, .vec 2 2),(72, .int .i64),(73, .int .i64)],[.box [.int .i64, .int .i64, .int .i64], .box [.int .i64, .int .i64, .int .i64], .row [ci,ci]],94⟩,[((AX.exit 8),⟨[(4, .bptr 0 0),(14, .bool),(15, .bptr 1 0)],[.box [.int .i64, .int .i64, .int .i64], .box [.int .i64, .int .i64, .int .i64]],94⟩)]⟩⟩]
def ja63:List JA:=
 [⟨63,[true,true,false,false,true,true,false,false,true,false,true,true,false,true],0,[(AX.normal,⟨[(0, .list 2),(1, .list 2),(4, .bptr 0 0),(6, .bptr 1 0),(42, .full 2 1),(43, .int .i64),(44, .int .i64)],[.box [.int .i64, .int .i64, .int .i64], .box [.vec 3 2], .row [(CK.list 2)], .row [ci,ci]],94⟩)]⟩]
def v68:List CF:=
 [⟨v15,G92⟩]
def an63:Anns:=
 ⟨v68,ja63,[]⟩
def w7h (it:It) (p:Prim):(LD×T68)→Option ((LD×T68)⊕(Int×(Int×(Int×(Int×(Int×(Int×(Bool×Unit)))))))):=
 fun a=>opt.run _ (
 opt.ask _ (p.cmp .lss a.2.2.2.2.2.2.2.2.2.2.2.1 a.2.2.2.2.2.2.2.2.2.2.1) (
 opt.need _ (bif (p.cmp .geq a.2.2.2.2.2.2.2.2.2.2.2.1 (0:Int)) then (p.cmp .lss a.2.2.2.2.2.2.2.2.2.2.2.1 (p.ofNat (p.len a.1))) else Bool.false)<|
 opt.need _ (p.rowOk a.1 (p.add 0 (p.nat a.2.2.2.2.2.2.2.2.2.2.2.1)) [ci,ci])<|
 opt.bnd ((Int×(Bool×Unit))) _ (g92 it p (a.2.2.2.2.2.2.2.1,(a.2.2.2.2.2.2.2.2.1,((p.rdI a.1 (p.add 0 (p.nat a.2.2.2.2.2.2.2.2.2.2.2.1)) 0),((p.rdI a.1 (p.add 0 (p.nat a.2.2.2.2.2.2.2.2.2.2.2.1)) 1),()))))) fun b=>
 opt.ask _ b.2.1 (
 opt.ret _ (Sum.inr (a.2.1,(a.2.2.1,(a.2.2.2.1,((p.rdI a.1 (p.add 0 (p.nat a.2.2.2.2.2.2.2.2.2.2.2.1)) 0),((p.rdI a.1 (p.add 0 (p.nat a.2.2.2.2.2.2.2.2.2.2.2.1)) 1),(b.1,(Bool.true,()))))))))) (
 opt.need _ (p.eqN 0 0)<|
 opt.need _ (p.eqN (p.len a.1) (p.len a.1))<|
 opt.ret _ (Sum.inl (a.1,(a.2.1,(a.2.2.1,(a.2.2.2.1,(a.2.2.2.2.1,(a.2.2.2.2.2.1,(a.2.2.2.2.2.2.1,(a.2.2.2.2.2.2.2.1,(a.2.2.2.2.2.2.2.2.1,(a.2.2.2.2.2.2.2.2.2.1,(a.2.2.2.2.2.2.2.2.2.2.1,((p.ar .add .i64 a.2.2.2.2.2.2.2.2.2.2.2.1 (1:Int)),()))))))))))))))) (
 opt.ret _ (Sum.inr (a.2.1,(a.2.2.1,(a.2.2.2.1,(a.2.2.2.2.1,(a.2.2.2.2.2.1,(a.2.2.2.2.2.2.1,(a.2.2.2.2.2.2.2.2.2.1,()))))))))))
def v8i (p:Prim):(LD×(LD×T69))→Option ((LD×(LD×T69))⊕((LD×(LD×T23))⊕(LD×(LD×T23)))):=
 fun a=>opt.run _ (
 opt.ask _ (p.cmp .lss a.2.2.2.2.2.2.2.2.2.2.2.2.1 a.2.2.2.2.2.2.2.2.2.2.2.1) (
 opt.need _ (p.rowOk a.2.2.2.2.2.2.2.2.2.2.1 (p.nat a.2.2.2.2.2.2.2.2.2.2.2.2.1) [ci,ci])<|
 opt.need _ (p.cmp .geq a.2.2.2.2.2.2.2.2.2.2.2.2.1 (0:Int))<|
 opt.need _ (p.cmp .neq (p.ofNat (p.len a.2.2.2.2.2.1)) (0:Int))<|
 opt.need _ (p.rowOk a.2.2.2.2.2.1 (p.nat (p.ar .rem .i64 (p.ar .add .i64 a.2.2.2.2.2.2.2.2.2.2.2.2.1 (1:Int)) (p.ofNat (p.len a.2.2.2.2.2.1)))) [ci,ci])<|
 opt.need _ (p.cmp .geq (p.ar .rem .i64 (p.ar .add .i64 a.2.2.2.2.2.2.2.2.2.2.2.2.1 (1:Int)) (p.ofNat (p.len a.2.2.2.2.2.1))) (0:Int))<|
 opt.ask _ (bif (p.cmp .eql (p.ar .sub .i64 (p.rdI a.2.2.2.2.2.1 (p.nat (p.ar .rem .i64 (p.ar .add .i64 a.2.2.2.2.2.2.2.2.2.2.2.2.1 (1:Int)) (p.ofNat (p.len a.2.2.2.2.2.1)))) 0) (p.rdI a.2.2.2.2.2.2.2.2.2.2.1 (p.nat a.2.2.2.2.2.2.2.2.2.2.2.2.1) 0)) (0:Int)) then (bif (p.cmp .eql (p.ar .sub .i64 (p.rdI a.2.2.2.2.2.1 (p.nat (p.ar .rem .i64 (p.ar .add .i64 a.2.2.2.2.2.2.2.2.2.2.2.2.1 (1:Int)) (p.ofNat (p.len a.2.2.2.2.2.1)))) 1) (p.rdI a.2.2.2.2.2.2.2.2.2.2.1 (p.nat a.2.2.2.2.2.2.2.2.2.2.2.2.1) 1)) (0:Int)) then Bool.true else Bool.false) else Bool.false) (
 opt.need _ (p.eqN 0 0)<|
 opt.need _ (p.eqN (p.len a.2.1) (p.len a.2.1))<|
 opt.need _ (p.eqN 0 0)<|
 opt.need _ (p.eqN (p.len a.1) (p.len a.1))<|
 opt.need _ (p.eqN (p.len a.1) (p.len a.1))<|
 opt.ret _ (Sum.inr (Sum.inl (a.1,(a.2.1,(a.2.2.1,(a.2.2.2.1,(a.2.2.2.2.1,(a.2.2.2.2.2.1,(a.2.2.2.2.2.2.1,(a.2.2.2.2.2.2.2.1,(a.2.2.2.2.2.2.2.2.1,(a.2.2.2.2.2.2.2.2.2.1,()))))))))))))) (
 opt.need _ (p.and (p.leN (p.add 0 2) (p.len [[(D.int .i64 (p.ar .sub .i64 (p.rdI a.2.2.2.2.2.1 (p.nat (p.ar .rem .i64 (p.ar .add .i64 a.2.2.2.2.2.2.2.2.2.2.2.2.1 (1:Int)) (p.ofNat (p.len a.2.2.2.2.2.1)))) 1) (p.rdI a.2.2.2.2.2.2.2.2.2.2.1 (p.nat a.2.2.2.2.2.2.2.2.2.2.2.2.1) 1))),(D.int .i64 (p.ar .sub .i64 (0:Int) (p.ar .sub .i64 (p.rdI a.2.2.2.2.2.1 (p.nat (p.ar .rem .i64 (p.ar .add .i64 a.2.2.2.2.2.2.2.2.2.2.2.2.1 (1:Int)) (p.ofNat (p.len a.2.2.2.2.2.1)))) 0) (p.rdI a.2.2.2.2.2.2.2.2.2.2.1 (p.nat a.2.2.2.2.2.2.2.2.2.2.2.2.1) 0))))],[(D.int .i64 (p.ar .sub .i64 (0:Int) (p.ar .sub .i64 (p.rdI a.2.2.2.2.2.1 (p.nat (p.ar .rem .i64 (p.ar .add .i64 a.2.2.2.2.2.2.2.2.2.2.2.2.1 (1:Int)) (p.ofNat (p.len a.2.2.2.2.2.1)))) 1) (p.rdI a.2.2.2.2.2.2.2.2.2.2.1 (p.nat a.2.2.2.2.2.2.2.2.2.2.2.2.1) 1)))),(D.int .i64 (p.ar .sub .i64 (p.rdI a.2.2.2.2.2.1 (p.nat (p.ar .rem .i64 (p.ar .add .i64 a.2.2.2.2.2.2.2.2.2.2.2.2.1 (1:Int)) (p.ofNat (p.len a.2.2.2.2.2.1)))) 0) (p.rdI a.2.2.2.2.2.2.2.2.2.2.1 (p.nat a.2.2.2.2.2.2.2.2.2.2.2.2.1) 0)))]])) (p.and (p.leN (p.add 0 (p.len a.2.1)) (p.len a.2.1)) (p.and (p.leN 1 2) (p.leN (p.add (p.len a.2.1) 2) 1000000))))<|
 opt.need _ (p.eqN 0 0)<|
 opt.need _ (p.eqN (p.add (p.len a.2.1) 2) (p.len (p.app (p.cut a.2.1 0 (p.len a.2.1)) (p.cut [[(D.int .i64 (p.ar .sub .i64 (p.rdI a.2.2.2.2.2.1 (p.nat (p.ar .rem .i64 (p.ar .add .i64 a.2.2.2.2.2.2.2.2.2.2.2.2.1 (1:Int)) (p.ofNat (p.len a.2.2.2.2.2.1)))) 1) (p.rdI a.2.2.2.2.2.2.2.2.2.2.1 (p.nat a.2.2.2.2.2.2.2.2.2.2.2.2.1) 1))),(D.int .i64 (p.ar .sub .i64 (0:Int) (p.ar .sub .i64 (p.rdI a.2.2.2.2.2.1 (p.nat (p.ar .rem .i64 (p.ar .add .i64 a.2.2.2.2.2.2.2.2.2.2.2.2.1 (1:Int)) (p.ofNat (p.len a.2.2.2.2.2.1)))) 0) (p.rdI a.2.2.2.2.2.2.2.2.2.2.1 (p.nat a.2.2.2.2.2.2.2.2.2.2.2.2.1) 0))))],[(D.int .i64 (p.ar .sub .i64 (0:Int) (p.ar .sub .i64 (p.rdI a.2.2.2.2.2.1 (p.nat (p.ar .rem .i64 (p.ar .add .i64 a.2.2.2.2.2.2.2.2.2.2.2.2.1 (1:Int)) (p.ofNat (p.len a.2.2.2.2.2.1)))) 1) (p.rdI a.2.2.2.2.2.2.2.2.2.2.1 (p.nat a.2.2.2.2.2.2.2.2.2.2.2.2.1) 1)))),(D.int .i64 (p.ar .sub .i64 (p.rdI a.2.2.2.2.2.1 (p.nat (p.ar .rem .i64 (p.ar .add .i64 a.2.2.2.2.2.2.2.2.2.2.2.2.1 (1:Int)) (p.ofNat (p.len a.2.2.2.2.2.1)))) 0) (p.rdI a.2.2.2.2.2.2.2.2.2.2.1 (p.nat a.2.2.2.2.2.2.2.2.2.2.2.2.1) 0)))]] 0 2))))<|
 opt.need _ (p.eqN 0 0)<|
 opt.need _ (p.eqN (p.len a.1) (p.len a.1))<|
 opt.need _ (p.eqN (p.len a.1) (p.len a.1))<|
 opt.ret _ (Sum.inl (a.1,((p.app (p.cut a.2.1 0 (p.len a.2.1)) (p.cut [[(D.int .i64 (p.ar .sub .i64 (p.rdI a.2.2.2.2.2.1 (p.nat (p.ar .rem .i64 (p.ar .add .i64 a.2.2.2.2.2.2.2.2.2.2.2.2.1 (1:Int)) (p.ofNat (p.len a.2.2.2.2.2.1)))) 1) (p.rdI a.2.2.2.2.2.2.2.2.2.2.1 (p.nat a.2.2.2.2.2.2.2.2.2.2.2.2.1) 1))),(D.int .i64 (p.ar .sub .i64 (0:Int) (p.ar .sub .i64 (p.rdI a.2.2.2.2.2.1 (p.nat (p.ar .rem .i64 (p.ar .add .i64 a.2.2.2.2.2.2.2.2.2.2.2.2.1 (1:Int)) (p.ofNat (p.len a.2.2.2.2.2.1)))) 0) (p.rdI a.2.2.2.2.2.2.2.2.2.2.1 (p.nat a.2.2.2.2.2.2.2.2.2.2.2.2.1) 0))))],[(D.int .i64 (p.ar .sub .i64 (0:Int) (p.ar .sub .i64 (p.rdI a.2.2.2.2.2.1 (p.nat (p.ar .rem .i64 (p.ar .add .i64 a.2.2.2.2.2.2.2.2.2.2.2.2.1 (1:Int)) (p.ofNat (p.len a.2.2.2.2.2.1)))) 1) (p.rdI a.2.2.2.2.2.2.2.2.2.2.1 (p.nat a.2.2.2.2.2.2.2.2.2.2.2.2.1) 1)))),(D.int .i64 (p.ar .sub .i64 (p.rdI a.2.2.2.2.2.1 (p.nat (p.ar .rem .i64 (p.ar .add .i64 a.2.2.2.2.2.2.2.2.2.2.2.2.1 (1:Int)) (p.ofNat (p.len a.2.2.2.2.2.1)))) 0) (p.rdI a.2.2.2.2.2.2.2.2.2.2.1 (p.nat a.2.2.2.2.2.2.2.2.2.2.2.2.1) 0)))]] 0 2)),(a.2.2.1,(a.2.2.2.1,(a.2.2.2.2.1,(a.2.2.2.2.2.1,(a.2.2.2.2.2.2.1,(a.2.2.2.2.2.2.2.1,(a.2.2.2.2.2.2.2.2.1,(a.2.2.2.2.2.2.2.2.2.1,(a.2.2.2.2.2.2.2.2.2.2.1,(a.2.2.2.2.2.2.2.2.2.2.2.1,((p.ar .add .i64 a.2.2.2.2.2.2.2.2.2.2.2.2.1 (1:Int)),())))))))))))))))) (
 opt.need _ (p.eqN 0 0)<|
 opt.need _ (p.eqN (p.len a.2.1) (p.len a.2.1))<|
 opt.need _ (p.eqN 0 0)<|
 opt.need _ (p.eqN (p.len a.1) (p.len a.1))<|
 opt.need _ (p.eqN (p.len a.1) (p.len a.1))<|
 opt.ret _ (Sum.inr (Sum.inr (a.1,(a.2.1,(a.2.2.1,(a.2.2.2.1,(a.2.2.2.2.1,(a.2.2.2.2.2.1,(a.2.2.2.2.2.2.1,(a.2.2.2.2.2.2.2.1,(a.2.2.2.2.2.2.2.2.1,(a.2.2.2.2.2.2.2.2.2.1,()))))))))))))))
def w7i (it:It) (p:Prim):(LD×(LD×T34))→Option ((LD×(LD×T34))⊕(LD×T35)):=
 fun a=>opt.run _ (
 opt.ask _ (p.cmp .lss a.2.2.2.2.2.2.2.2.1 a.2.2.2.2.2.2.2.1) (
 opt.need _ (bif (p.cmp .geq a.2.2.2.2.2.2.2.2.1 (0:Int)) then (p.cmp .lss a.2.2.2.2.2.2.2.2.1 (p.ofNat (p.len a.1))) else Bool.false)<|
 opt.need _ (p.rowOk a.1 (p.add 0 (p.nat a.2.2.2.2.2.2.2.2.1)) [(CK.list 2)])<|
 opt.bnd ((LD×(LD×T34))) _ (
 opt.run ((LD×(LD×T34))) (
 opt.need _ (p.eqN 0 0)<|
 opt.need _ (p.eqN (p.len a.2.1) (p.len a.2.1))<|
 opt.need _ (p.eqN 0 0)<|
 opt.need _ (p.eqN (p.len a.1) (p.len a.1))<|
 opt.need _ (p.eqN (p.len a.1) (p.len a.1))<|
 opt.alt ((LD×(LD×T23))) ((LD×(LD×T23))) _ (
 it _ _ (v8i p) (a.1,(a.2.1,(a.2.2.1,(a.2.2.2.1,(a.2.2.2.2.1,((p.rdL a.1 (p.add 0 (p.nat a.2.2.2.2.2.2.2.2.1)) 0),(a.2.2.2.2.2.2.2.1,(a.2.2.2.2.2.2.1,(a.2.2.2.2.2.1,(a.2.2.2.2.2.2.2.2.1,((p.rdL a.1 (p.add 0 (p.nat a.2.2.2.2.2.2.2.2.1)) 0),((p.ofNat (p.len (p.rdL a.1 (p.add 0 (p.nat a.2.2.2.2.2.2.2.2.1)) 0))),((0:Int),())))))))))))))) (fun b=>
 opt.need _ (p.eqN 0 0)<|
 opt.need _ (p.eqN (p.len b.2.1) (p.len b.2.1))<|
 opt.need _ (p.eqN 0 0)<|
 opt.need _ (p.eqN (p.len a.1) (p.len b.1))<|
 opt.need _ (p.eqN (p.len a.1) (p.len b.1))<|
 opt.ret _ (b.1,(b.2.1,(b.2.2.1,(b.2.2.2.1,(b.2.2.2.2.1,(a.2.2.2.2.2.1,(a.2.2.2.2.2.2.1,(a.2.2.2.2.2.2.2.1,(a.2.2.2.2.2.2.2.2.1,())))))))))) (fun c=>
 opt.bnd ((LD×(LD×T23))) _ (some c) fun d=>
 opt.need _ (p.eqN 0 0)<|
 opt.need _ (p.eqN (p.len d.2.1) (p.len d.2.1))<|
 opt.need _ (p.eqN 0 0)<|
 opt.need _ (p.eqN (p.len a.1) (p.len d.1))<|
 opt.need _ (p.eqN (p.len a.1) (p.len d.1))<|
 opt.ret _ (d.1,(d.2.1,(d.2.2.1,(d.2.2.2.1,(d.2.2.2.2.1,(a.2.2.2.2.2.1,(a.2.2.2.2.2.2.1,(a.2.2.2.2.2.2.2.1,(a.2.2.2.2.2.2.2.2.1,())))))))))))) fun e=>
 opt.need _ (p.eqN 0 0)<|
 opt.need _ (p.eqN (p.len e.2.1) (p.len e.2.1))<|
 opt.need _ (p.eqN 0 0)<|
 opt.need _ (p.eqN (p.len e.1) (p.len e.1))<|
 opt.need _ (p.eqN (p.len e.1) (p.len e.1))<|
 opt.ret _ (Sum.inl (e.1,(e.2.1,(e.2.2.1,(e.2.2.2.1,(e.2.2.2.2.1,(e.2.2.2.2.2.1,(e.2.2.2.2.2.2.1,(e.2.2.2.2.2.2.2.1,((p.ar .add .i64 e.2.2.2.2.2.2.2.2.1 (1:Int)),()))))))))))) (
 opt.need _ (p.eqN 0 0)<|
 opt.need _ (p.eqN (p.len a.2.1) (p.len a.2.1))<|
 opt.ret _ (Sum.inr (a.2.1,(a.2.2.1,(a.2.2.2.1,(a.2.2.2.2.1,(a.2.2.2.2.2.1,(a.2.2.2.2.2.2.1,())))))))))
def v8j (p:Prim):(LD×T70)→Option ((LD×T70)⊕(LD×T36)):=
 fun a=>opt.run _ (
 opt.ask _ (p.cmp .lss a.2.2.2.2.2.2.2.2.2.2.2.2.2.1 a.2.2.2.2.2.2.2.2.2.2.2.2.1) (
 opt.need _ (p.rowOk a.2.2.2.2.2.2.2.2.2.2.2.1 (p.nat a.2.2.2.2.2.2.2.2.2.2.2.2.2.1) [ci,ci])<|
 opt.need _ (p.cmp .geq a.2.2.2.2.2.2.2.2.2.2.2.2.2.1 (0:Int))<|
 opt.need _ (p.and (p.leN (p.add 0 1) (p.len [[(D.int .i64 (p.ar .sub .i64 (p.rdI a.2.2.2.2.2.2.2.2.2.2.2.1 (p.nat a.2.2.2.2.2.2.2.2.2.2.2.2.2.1) 0) a.2.2.2.2.1)),(D.int .i64 (p.ar .sub .i64 (p.rdI a.2.2.2.2.2.2.2.2.2.2.2.1 (p.nat a.2.2.2.2.2.2.2.2.2.2.2.2.2.1) 1) a.2.2.2.2.2.1))]])) (p.and (p.leN (p.add 0 (p.len a.1)) (p.len a.1)) (p.and (p.leN 1 1) (p.leN (p.add (p.len a.1) 1) 1000000))))<|
 opt.need _ (p.eqN 0 0)<|
 opt.need _ (p.eqN (p.add (p.len a.1) 1) (p.len (p.app (p.cut a.1 0 (p.len a.1)) (p.cut [[(D.int .i64 (p.ar .sub .i64 (p.rdI a.2.2.2.2.2.2.2.2.2.2.2.1 (p.nat a.2.2.2.2.2.2.2.2.2.2.2.2.2.1) 0) a.2.2.2.2.1)),(D.int .i64 (p.ar .sub .i64 (p.rdI a.2.2.2.2.2.2.2.2.2.2.2.1 (p.nat a.2.2.2.2.2.2.2.2.2.2.2.2.2.1) 1) a.2.2.2.2.2.1))]] 0 1))))<|
 opt.ret _ (Sum.inl ((p.app (p.cut a.1 0 (p.len a.1)) (p.cut [[(D.int .i64 (p.ar .sub .i64 (p.rdI a.2.2.2.2.2.2.2.2.2.2.2.1 (p.nat a.2.2.2.2.2.2.2.2.2.2.2.2.2.1) 0) a.2.2.2.2.1)),(D.int .i64 (p.ar .sub .i64 (p.rdI a.2.2.2.2.2.2.2.2.2.2.2.1 (p.nat a.2.2.2.2.2.2.2.2.2.2.2.2.2.1) 1) a.2.2.2.2.2.1))]] 0 1)),(a.2.1,(a.2.2.1,(a.2.2.2.1,(a.2.2.2.2.1,(a.2.2.2.2.2.1,(a.2.2.2.2.2.2.1,(a.2.2.2.2.2.2.2.1,(a.2.2.2.2.2.2.2.2.1,(a.2.2.2.2.2.2.2.2.2.1,(a.2.2.2.2.2.2.2.2.2.2.1,(a.2.2.2.2.2.2.2.2.2.2.2.1,(a.2.2.2.2.2.2.2.2.2.2.2.2.1,((p.ar .add .i64 a.2.2.2.2.2.2.2.2.2.2.2.2.2.1 (1:Int)),())))))))))))))))) (
 opt.need _ (p.eqN 0 0)<|
 opt.need _ (p.eqN (p.len a.1) (p.len a.1))<|
 opt.ret _ (Sum.inr (a.1,(a.2.1,(a.2.2.1,(a.2.2.2.1,(a.2.2.2.2.2.2.1,(a.2.2.2.2.2.2.2.1,(a.2.2.2.2.2.2.2.2.1,(a.2.2.2.2.2.2.2.2.2.1,(a.2.2.2.2.2.2.2.2.2.2.1,()))))))))))))
def w7j (it:It) (p:Prim):(LD×T36)→Option ((LD×T36)⊕(LD×T35)):=
 fun a=>opt.run _ (
 opt.ask _ (p.cmp .lss a.2.2.2.2.2.2.2.2.1 a.2.2.2.2.2.2.2.1) (
 opt.need _ (p.rowOk a.2.2.2.2.2.2.1 (p.nat a.2.2.2.2.2.2.2.2.1) [ci,ci])<|
 opt.need _ (p.cmp .geq a.2.2.2.2.2.2.2.2.1 (0:Int))<|
 opt.need _ (p.eqN 0 0)<|
 opt.need _ (p.eqN (p.len a.1) (p.len a.1))<|
 opt.bnd ((LD×T36)) _ (
 it _ _ (v8j p) (a.1,(a.2.1,(a.2.2.1,(a.2.2.2.1,((p.rdI a.2.2.2.2.2.2.1 (p.nat a.2.2.2.2.2.2.2.2.1) 0),((p.rdI a.2.2.2.2.2.2.1 (p.nat a.2.2.2.2.2.2.2.2.1) 1),(a.2.2.2.2.1,(a.2.2.2.2.2.1,(a.2.2.2.2.2.2.1,(a.2.2.2.2.2.2.2.1,(a.2.2.2.2.2.2.2.2.1,(a.2.2.2.2.2.1,((p.ofNat (p.len a.2.2.2.2.2.1)),((0:Int),()))))))))))))))) fun b=>
 opt.need _ (p.eqN 0 0)<|
 opt.need _ (p.eqN (p.len b.1) (p.len b.1))<|
 opt.ret _ (Sum.inl (b.1,(b.2.1,(b.2.2.1,(b.2.2.2.1,(b.2.2.2.2.1,(b.2.2.2.2.2.1,(b.2.2.2.2.2.2.1,(b.2.2.2.2.2.2.2.1,((p.ar .add .i64 b.2.2.2.2.2.2.2.2.1 (1:Int)),()))))))))))) (
 opt.need _ (p.eqN 0 0)<|
 opt.need _ (p.eqN (p.len a.1) (p.len a.1))<|
 opt.ret _ (Sum.inr (a.1,(a.2.1,(a.2.2.1,(a.2.2.2.1,(a.2.2.2.2.1,(a.2.2.2.2.2.1,())))))))))
def g63 (it:It):(p:Prim)→(LD×(LD×Unit))→Option T20:=
 fun p x=>
 opt.bnd ((LD×T35)) _ (
 it _ _ (w7j it p) ([],((0:Int),((0:Int),((0:Int),(x.1,(x.2.1,(x.1,((p.ofNat (p.len x.1)),((0:Int),())))))))))) fun a=>
 opt.need _ (p.eqN 0 0)<|
 opt.need _ (p.eqN (p.len a.1) (p.len a.1))<|
 opt.need _ (p.eqN 0 0)<|
 opt.need _ (p.eqN 2 (p.len [[(D.list Bool.false 2 a.2.2.2.2.1)],[(D.list Bool.false 2 a.2.2.2.2.2.1)]]))<|
 opt.need _ (p.eqN 2 (p.len [[(D.list Bool.false 2 a.2.2.2.2.1)],[(D.list Bool.false 2 a.2.2.2.2.2.1)]]))<|
 opt.bnd ((LD×T35)) _ (
 it _ _ (w7i it p) ([[(D.list Bool.false 2 a.2.2.2.2.1)],[(D.list Bool.false 2 a.2.2.2.2.2.1)]],(a.1,(a.2.1,(a.2.2.1,(a.2.2.2.1,(a.2.2.2.2.1,(a.2.2.2.2.2.1,((p.ofNat 2),((0:Int),())))))))))) fun b=>
 opt.need _ (p.eqN 0 0)<|
 opt.need _ (p.eqN (p.len b.1) (p.len b.1))<|
 opt.bnd T45 _ (
 it _ _ (w7h it p) (b.1,(b.2.1,(b.2.2.1,(b.2.2.2.1,((0:Int),((0:Int),((0:Int),(b.2.2.2.2.1,(b.2.2.2.2.2.1,(Bool.false,((p.ofNat (p.len b.1)),((0:Int),()))))))))))))) fun c=>
 opt.ret _ (c.2.2.2.1,(c.2.2.2.2.1,(c.2.2.2.2.2.1,(c.2.2.2.2.2.2.1,()))))
def G63:=g63 it0
theorem v5b:CtrOk PG w2q (G63 std):=okF (a:=an63) (l:=la63) (gC ok92 (gN)) (by kernel_rfl) fun _ _=>by kernel_rfl
end Go.Am
end
noncomputable section
namespace Go.Am
def v2r:Ctr:=
 ⟨32,[.agg [.list 2, .list 1], .agg [.list 2, .list 1]],[],[(.ret,⟨[(0, .tuple [.agg [.int .i64, .int .i64, .int .i64], .int .i64])],[],1⟩)]⟩
def la32:List LA:=
 []
def ja32:List JA:=
 []
def v7q:List CF:=
 [⟨w2q,G63⟩,⟨x9j,G62⟩]
def an32:Anns:=
 ⟨v7q,ja32,[]⟩
def g32 (it:It):(p:Prim)→(LD×(LD×(LD×(LD×Unit))))→Option T10:=
 fun p x=>
 opt.alt T0 (((LD×(LD×(LD×T1)))⊕((LD×(LD×(LD×T1)))⊕(LD×(LD×(LD×(LD×(LD×(LD×T1))))))))) _ (g62 it p (x.1,(x.2.1,(x.2.2.1,(x.2.2.2.1,()))))) (fun a=>
 opt.ask _ (p.cmp .neq a.1 (0:Int)) (
 opt.ret _ ((0:Int),((0:Int),((0:Int),(a.1,()))))) (
 opt.no _ 41)) (fun b=>
 opt.alt ((LD×(LD×(LD×T1)))) (((LD×(LD×(LD×T1)))⊕(LD×(LD×(LD×(LD×(LD×(LD×T1)))))))) _ (some b) (fun c=>
 opt.ask _ (p.cmp .neq c.2.2.2.1 (0:Int)) (
 opt.ret _ ((0:Int),((0:Int),((0:Int),(c.2.2.2.1,()))))) (
 opt.no _ 41)) (fun d=>
 opt.alt ((LD×(LD×(LD×T1)))) ((LD×(LD×(LD×(LD×(LD×(LD×T1))))))) _ (some d) (fun e=>
 opt.ask _ (p.cmp .neq e.2.2.2.1 (0:Int)) (
 opt.ret _ ((0:Int),((0:Int),((0:Int),(e.2.2.2.1,()))))) (
 opt.no _ 41)) (fun f=>
 opt.bnd ((LD×(LD×(LD×(LD×(LD×(LD×T1))))))) _ (some f) fun g=>
 opt.ask _ (p.cmp .neq g.2.2.2.2.2.2.1 (0:Int)) (
 opt.ret _ ((0:Int),((0:Int),((0:Int),(g.2.2.2.2.2.2.1,()))))) (
 opt.bnd T20 _ (g63 it p (g.2.2.1,(g.2.2.2.2.2.1,()))) fun h=>
 opt.ask _ (bif h.2.2.2.1 then Bool.false else Bool.true) (
 opt.ret _ ((0:Int),((0:Int),((0:Int),((21:Int),()))))) (
 opt.ret _ (h.1,(h.2.1,(h.2.2.1,((0:Int),())))))))))
def G32:=g32 it0
theorem ok32:CtrOk PG v2r (G32 std):=okF (a:=an32) (l:=la32) (gC v5b (gC v4k (gN))) (by kernel_rfl) fun _ _=>by kernel_rfl
end Go.Am
end
noncomputable section
namespace Go.Am
def w4b:Ctr:=
 ⟨78,[.list 2, .clo 66 [.agg [.int .i64, .int .i64]] []],[],[(.ret,⟨[(0, .int .i64)],[],1⟩)]⟩
def v5x:List LA:=
 [⟨78,[false,true,false,true,true],0,⟨⟨[(1, .clo 66 [.agg [.int .i64, .int .i64]] []),(5, .int .i64),(13, .list 2),(14, .int .i64),(15, .int .i64)],[],26⟩,[((AX.exit 0),⟨[(5, .int .i64)],[],26⟩)]⟩⟩]
def v58:List JA:=
 []
def v1f:List CF:=
 []
def v8s:Anns:=
 ⟨v1f,v58,[]⟩
def v3a (p:Prim):T44→Option T67:=
 fun a=>opt.run _ (
 opt.ask _ (p.cmp .lss a.2.2.2.2.2.1 a.2.2.2.2.1) (
 opt.need _ (p.rowOk a.2.2.2.1 (p.nat a.2.2.2.2.2.1) [ci,ci])<|
 opt.need _ (p.cmp .geq a.2.2.2.2.2.1 (0:Int))<|
 opt.ret _ (Sum.inl (a.1,(a.2.1,((p.mm .gtr a.2.2.1 (p.ar .add .i64 (p.ar .mul .i64 a.1 (p.rdI a.2.2.2.1 (p.nat a.2.2.2.2.2.1) 0)) (p.ar .mul .i64 a.2.1 (p.rdI a.2.2.2.1 (p.nat a.2.2.2.2.2.1) 1)))),(a.2.2.2.1,(a.2.2.2.2.1,((p.ar .add .i64 a.2.2.2.2.2.1 (1:Int)),())))))))) (
 opt.ret _ (Sum.inr (a.2.2.1,()))))
def w8m (it:It):(p:Prim)→(LD×T3)→Option T0:=
 fun p x=>
 opt.need _ (p.rowOk x.1 (p.nat (0:Int)) [ci,ci])<|
 opt.bnd T0 _ (
 it _ _ (v3a p) (x.2.1,(x.2.2.1,((p.ar .add .i64 (p.ar .mul .i64 x.2.1 (p.rdI x.1 (p.nat (0:Int)) 0)) (p.ar .mul .i64 x.2.2.1 (p.rdI x.1 (p.nat (0:Int)) 1))),(x.1,((p.ofNat (p.len x.1)),((0:Int),()))))))) fun a=>
 opt.ret _ (a.1,())
def v9x:=w8m it0
theorem v5a:CtrOk PG w4b (v9x std):=okF (a:=v8s) (l:=v5x) (gN) (by kernel_rfl) fun _ _=>by kernel_rfl
def v2n:Ctr:=
 ⟨39,[.agg [.list 2, .list 1], .agg [.list 2, .list 1], .agg [.int .i64, .int .i64, .int .i64]],[],[(.ret,⟨[(0, .int .i64)],[],1⟩)]⟩
def la39:List LA:=
 []
def ja39:List JA:=
 [⟨39,[true,true,true,false,false,true,true,true],0,[(AX.ret,⟨[(6, .int .i64)],[],90⟩),(AX.normal,⟨[],[],90⟩)]⟩,
 ⟨39,[true,false,false,true,true,true],0,[(AX.ret,⟨[(6, .int .i64)],[],90⟩),(AX.normal,⟨[],[],90⟩)]⟩]
def v7m:List CF:=
 [⟨w4b,v9x⟩,⟨w64,G77⟩,⟨x9j,G62⟩]
def an39:Anns:=
 ⟨v7m,ja39,[]⟩
def g39 (it:It):(p:Prim)→(LD×(LD×(LD×(LD×T5))))→Option T0:=
 fun p x=>
 opt.alt T0 (((LD×(LD×(LD×T1)))⊕((LD×(LD×(LD×T1)))⊕(LD×(LD×(LD×(LD×(LD×(LD×T1))))))))) _ (g62 it p (x.1,(x.2.1,(x.2.2.1,(x.2.2.2.1,()))))) (fun a=>
 opt.alt T0 (Unit) _ (
 opt.run T6 (
 opt.ask _ (p.cmp .neq a.1 (0:Int)) (
 opt.ret _ (Sum.inl (a.1,()))) (
 opt.ask _ (bif (p.cmp .eql x.2.2.2.2.1 (0:Int)) then (bif (p.cmp .eql x.2.2.2.2.2.1 (0:Int)) then Bool.true else Bool.false) else Bool.false) (
 opt.alt T0 (Unit) _ (
 opt.run T6 (
 opt.ret _ (Sum.inl ((2:Int),())))) (fun b=>
 opt.ret _ (Sum.inl (b.1,()))) (fun c=>
 opt.bnd (Unit) _ (some c) fun d=>
 opt.ret _ (Sum.inr ()))) (
 opt.bnd T0 _ (G77 p (x.2.2.2.2.1,())) fun e=>
 opt.bnd T0 _ (G77 p (x.2.2.2.2.2.1,())) fun f=>
 opt.ask _ (p.cmp .gtr (p.mm .gtr e.1 f.1) (1048576:Int)) (
 opt.alt T0 (Unit) _ (
 opt.run T6 (
 opt.ret _ (Sum.inl ((2:Int),())))) (fun g=>
 opt.ret _ (Sum.inl (g.1,()))) (fun h=>
 opt.bnd (Unit) _ (some h) fun i=>
 opt.ret _ (Sum.inr ()))) (
 opt.bnd T0 _ (G77 p (x.2.2.2.2.2.2.1,())) fun j=>
 opt.ask _ (p.cmp .gtr j.1 (1099511627776:Int)) (
 opt.alt T0 (Unit) _ (
 opt.run T6 (
 opt.ret _ (Sum.inl ((2:Int),())))) (fun k=>
 opt.ret _ (Sum.inl (k.1,()))) (fun l=>
 opt.bnd (Unit) _ (some l) fun m=>
 opt.ret _ (Sum.inr ()))) (
 opt.ask _ (p.cmp .lss (p.mm .lss x.2.2.2.2.1 x.2.2.2.2.2.1) (-1048576:Int)) (
 opt.alt T0 (Unit) _ (
 opt.run T6 (
 opt.ret _ (Sum.inl ((2:Int),())))) (fun n=>
 opt.ret _ (Sum.inl (n.1,()))) (fun o=>
 opt.bnd (Unit) _ (some o) fun q=>
 opt.ret _ (Sum.inr ()))) (
 opt.alt T0 (Unit) _ (
 opt.run T6 (
 opt.ask _ (p.cmp .lss x.2.2.2.2.2.2.1 (-1099511627776:Int)) (
 opt.ret _ (Sum.inl ((2:Int),()))) (
 opt.no _ 41))) (fun r=>
 opt.ret _ (Sum.inl (r.1,()))) (fun t=>
 opt.bnd (Unit) _ (some t) fun u=>
 opt.ret _ (Sum.inr ()))))))))) (fun v=>
 opt.ret _ (v.1,())) (fun w=>
 opt.bnd (Unit) _ (some w) fun z=>
 opt.ret _ ((0:Int),()))) (fun a1=>
 opt.alt ((LD×(LD×(LD×T1)))) (((LD×(LD×(LD×T1)))⊕(LD×(LD×(LD×(LD×(LD×(LD×T1)))))))) _ (some a1) (fun b1=>
 opt.alt T0 (Unit) _ (
 opt.run T6 (
 opt.ask _ (p.cmp .neq b1.2.2.2.1 (0:Int)) (
 opt.ret _ (Sum.inl (b1.2.2.2.1,()))) (
 opt.ask _ (bif (p.cmp .eql x.2.2.2.2.1 (0:Int)) then (bif (p.cmp .eql x.2.2.2.2.2.1 (0:Int)) then Bool.true else Bool.false) else Bool.false) (
 opt.alt T0 (Unit) _ (
 opt.run T6 (
 opt.ret _ (Sum.inl ((2:Int),())))) (fun c1=>
 opt.ret _ (Sum.inl (c1.1,()))) (fun d1=>
 opt.bnd (Unit) _ (some d1) fun e1=>
 opt.ret _ (Sum.inr ()))) (
 opt.bnd T0 _ (G77 p (x.2.2.2.2.1,())) fun f1=>
 opt.bnd T0 _ (G77 p (x.2.2.2.2.2.1,())) fun g1=>
 opt.ask _ (p.cmp .gtr (p.mm .gtr f1.1 g1.1) (1048576:Int)) (
 opt.alt T0 (Unit) _ (
 opt.run T6 (
 opt.ret _ (Sum.inl ((2:Int),())))) (fun h1=>
 opt.ret _ (Sum.inl (h1.1,()))) (fun i1=>
 opt.bnd (Unit) _ (some i1) fun j1=>
 opt.ret _ (Sum.inr ()))) (
 opt.bnd T0 _ (G77 p (x.2.2.2.2.2.2.1,())) fun k1=>
 opt.ask _ (p.cmp .gtr k1.1 (1099511627776:Int)) (
 opt.alt T0 (Unit) _ (
 opt.run T6 (
 opt.ret _ (Sum.inl ((2:Int),())))) (fun l1=>
 opt.ret _ (Sum.inl (l1.1,()))) (fun m1=>
 opt.bnd (Unit) _ (some m1) fun n1=>
 opt.ret _ (Sum.inr ()))) (
 opt.ask _ (p.cmp .lss (p.mm .lss x.2.2.2.2.1 x.2.2.2.2.2.1) (-1048576:Int)) (
 opt.alt T0 (Unit) _ (
 opt.run T6 (
 opt.ret _ (Sum.inl ((2:Int),())))) (fun o1=>
 opt.ret _ (Sum.inl (o1.1,()))) (fun q1=>
 opt.bnd (Unit) _ (some q1) fun r1=>
 opt.ret _ (Sum.inr ()))) (
 opt.alt T0 (Unit) _ (
 opt.run T6 (
 opt.ask _ (p.cmp .lss x.2.2.2.2.2.2.1 (-1099511627776:Int)) (
 opt.ret _ (Sum.inl ((2:Int),()))) (
 opt.no _ 41))) (fun t1=>
 opt.ret _ (Sum.inl (t1.1,()))) (fun u1=>
 opt.bnd (Unit) _ (some u1) fun v1=>
 opt.ret _ (Sum.inr ()))))))))) (fun w1=>
 opt.ret _ (w1.1,())) (fun z1=>
 opt.bnd (Unit) _ (some z1) fun a2=>
 opt.ret _ ((0:Int),()))) (fun b2=>
 opt.alt ((LD×(LD×(LD×T1)))) ((LD×(LD×(LD×(LD×(LD×(LD×T1))))))) _ (some b2) (fun c2=>
 opt.alt T0 (Unit) _ (
 opt.run T6 (
 opt.ask _ (p.cmp .neq c2.2.2.2.1 (0:Int)) (
 opt.ret _ (Sum.inl (c2.2.2.2.1,()))) (
 opt.ask _ (bif (p.cmp .eql x.2.2.2.2.1 (0:Int)) then (bif (p.cmp .eql x.2.2.2.2.2.1 (0:Int)) then Bool.true else Bool.false) else Bool.false) (
 opt.alt T0 (Unit) _ (
 opt.run T6 (
 opt.ret _ (Sum.inl ((2:Int),())))) (fun d2=>
 opt.ret _ (Sum.inl (d2.1,()))) (fun e2=>
 opt.bnd (Unit) _ (some e2) fun f2=>
 opt.ret _ (Sum.inr ()))) (
 opt.bnd T0 _ (G77 p (x.2.2.2.2.1,())) fun g2=>
 opt.bnd T0 _ (G77 p (x.2.2.2.2.2.1,())) fun h2=>
 opt.ask _ (p.cmp .gtr (p.mm .gtr g2.1 h2.1) (1048576:Int)) (
 opt.alt T0 (Unit) _ (
 opt.run T6 (
 opt.ret _ (Sum.inl ((2:Int),())))) (fun i2=>
 opt.ret _ (Sum.inl (i2.1,()))) (fun j2=>
 opt.bnd (Unit) _ (some j2) fun k2=>
 opt.ret _ (Sum.inr ()))) (
 opt.bnd T0 _ (G77 p (x.2.2.2.2.2.2.1,())) fun l2=>
 opt.ask _ (p.cmp .gtr l2.1 (1099511627776:Int)) (
 opt.alt T0 (Unit) _ (
 opt.run T6 (
 opt.ret _ (Sum.inl ((2:Int),())))) (fun m2=>
 opt.ret _ (Sum.inl (m2.1,()))) (fun n2=>
 opt.bnd (Unit) _ (some n2) fun o2=>
 opt.ret _ (Sum.inr ()))) (
 opt.ask _ (p.cmp .lss (p.mm .lss x.2.2.2.2.1 x.2.2.2.2.2.1) (-1048576:Int)) (
 opt.alt T0 (Unit) _ (
 opt.run T6 (
 opt.ret _ (Sum.inl ((2:Int),())))) (fun q2=>
 opt.ret _ (Sum.inl (q2.1,()))) (fun r2=>
 opt.bnd (Unit) _ (some r2) fun t2=>
 opt.ret _ (Sum.inr ()))) (
 opt.alt T0 (Unit) _ (
 opt.run T6 (
 opt.ask _ (p.cmp .lss x.2.2.2.2.2.2.1 (-1099511627776:Int)) (
 opt.ret _ (Sum.inl ((2:Int),()))) (
 opt.bnd T0 _ (w8m it p (c2.2.2.1,(x.2.2.2.2.1,(x.2.2.2.2.2.1,())))) fun u2=>
 opt.ask _ (p.cmp .gtr u2.1 x.2.2.2.2.2.2.1) (
 opt.ret _ (Sum.inl ((14:Int),()))) (
 opt.no _ 41)))) (fun v2=>
 opt.ret _ (Sum.inl (v2.1,()))) (fun w2=>
 opt.bnd (Unit) _ (some w2) fun z2=>
 opt.ret _ (Sum.inr ()))))))))) (fun a3=>
 opt.ret _ (a3.1,())) (fun b3=>
 opt.bnd (Unit) _ (some b3) fun c3=>
 opt.ret _ ((0:Int),()))) (fun d3=>
 opt.bnd ((LD×(LD×(LD×(LD×(LD×(LD×T1))))))) _ (some d3) fun e3=>
 opt.alt T0 (Unit) _ (
 opt.run T6 (
 opt.ask _ (p.cmp .neq e3.2.2.2.2.2.2.1 (0:Int)) (
 opt.ret _ (Sum.inl (e3.2.2.2.2.2.2.1,()))) (
 opt.ask _ (bif (p.cmp .eql x.2.2.2.2.1 (0:Int)) then (bif (p.cmp .eql x.2.2.2.2.2.1 (0:Int)) then Bool.true else Bool.false) else Bool.false) (
 opt.alt T0 (Unit) _ (
 opt.run T6 (
 opt.ret _ (Sum.inl ((2:Int),())))) (fun f3=>
 opt.ret _ (Sum.inl (f3.1,()))) (fun g3=>
 opt.bnd (Unit) _ (some g3) fun h3=>
 opt.ret _ (Sum.inr ()))) (
 opt.bnd T0 _ (G77 p (x.2.2.2.2.1,())) fun i3=>
 opt.bnd T0 _ (G77 p (x.2.2.2.2.2.1,())) fun j3=>
 opt.ask _ (p.cmp .gtr (p.mm .gtr i3.1 j3.1) (1048576:Int)) (
 opt.alt T0 (Unit) _ (
 opt.run T6 (
 opt.ret _ (Sum.inl ((2:Int),())))) (fun k3=>
 opt.ret _ (Sum.inl (k3.1,()))) (fun l3=>
 opt.bnd (Unit) _ (some l3) fun m3=>
 opt.ret _ (Sum.inr ()))) (
 opt.bnd T0 _ (G77 p (x.2.2.2.2.2.2.1,())) fun n3=>
 opt.ask _ (p.cmp .gtr n3.1 (1099511627776:Int)) (
 opt.alt T0 (Unit) _ (
 opt.run T6 (
 opt.ret _ (Sum.inl ((2:Int),())))) (fun o3=>
 opt.ret _ (Sum.inl (o3.1,()))) (fun q3=>
 opt.bnd (Unit) _ (some q3) fun r3=>
 opt.ret _ (Sum.inr ()))) (
 opt.ask _ (p.cmp .lss (p.mm .lss x.2.2.2.2.1 x.2.2.2.2.2.1) (-1048576:Int)) (
 opt.alt T0 (Unit) _ (
 opt.run T6 (
 opt.ret _ (Sum.inl ((2:Int),())))) (fun t3=>
 opt.ret _ (Sum.inl (t3.1,()))) (fun u3=>
 opt.bnd (Unit) _ (some u3) fun v3=>
 opt.ret _ (Sum.inr ()))) (
 opt.alt T0 (Unit) _ (
 opt.run T6 (
 opt.ask _ (p.cmp .lss x.2.2.2.2.2.2.1 (-1099511627776:Int)) (
 opt.ret _ (Sum.inl ((2:Int),()))) (
 opt.bnd T0 _ (w8m it p (e3.2.2.1,(x.2.2.2.2.1,(x.2.2.2.2.2.1,())))) fun w3=>
 opt.ask _ (p.cmp .gtr w3.1 x.2.2.2.2.2.2.1) (
 opt.ret _ (Sum.inl ((14:Int),()))) (
 opt.bnd T0 _ (w8m it p (e3.2.2.2.2.2.1,((p.ar .sub .i64 (0:Int) x.2.2.2.2.1),((p.ar .sub .i64 (0:Int) x.2.2.2.2.2.1),())))) fun z3=>
 opt.ask _ (p.cmp .leq (p.ar .sub .i64 (0:Int) z3.1) x.2.2.2.2.2.2.1) (
 opt.ret _ (Sum.inl ((14:Int),()))) (
 opt.ret _ (Sum.inr ())))))) (fun a4=>
 opt.ret _ (Sum.inl (a4.1,()))) (fun b4=>
 opt.bnd (Unit) _ (some b4) fun c4=>
 opt.ret _ (Sum.inr ()))))))))) (fun d4=>
 opt.ret _ (d4.1,())) (fun e4=>
 opt.bnd (Unit) _ (some e4) fun f4=>
 opt.ret _ ((0:Int),())))))
def G39:=g39 it0
theorem ok39:CtrOk PG v2n (G39 std):=okF (a:=an39) (l:=la39) (gC v5a (gC v88 (gC v4k (gN)))) (by kernel_rfl) fun _ _=>by kernel_rfl
end Go.Am
end
noncomputable section
namespace Go.Am
def v2p:Ctr:=
 ⟨37,[.agg [.list 2, .list 1], .agg [.list 2, .list 1]],[],[(.ret,⟨[(0, .tuple [.agg [.int .i64, .int .i64, .int .i64], .int .i64])],[],1⟩)]⟩
def la37:List LA:=
 [⟨37,[false,true,false,true,true,true],0,⟨⟨[(4, .bptr 0 0),(5, .bptr 1 0),(6, .bptr 2 0),(7, .bptr 3 0),(46, .agg [.list 2, .list 2, .list 2, .list 2]),(47, .int .i64)],[.box [.int .i64, .int .i64, .int .i64], .box [.int .i64], .box [.list 2, .list 1, .list 2], .box [.bptr 4 0], .box [.list 2, .list 1, .list 2]],89⟩,[(AX.ret,⟨[(4, .bptr 0 0),(5, .bptr 1 0)],[.box [.int .i64, .int .i64, .int .i64], .box [.int .i64]],89⟩),((AX.exit 0),⟨[(4, .bptr 0 0),(5, .bptr 1 0),(6, .bptr 2 0),(7, .bptr 3 0)],[.box [.int .i64, .int .i64, .int .i64], .box [.int .i64], .box [.list 2, .list 1, .list 2], .box [.bptr 4 0], .box [.list 2, .list 1, .list 2]],89⟩)]⟩⟩,
 ⟨37,[false,true,true,false,false,true,true,false,false,true,false,true,true,true],0,⟨⟨[(4, .bptr 0 0),(5, .bptr 1 0),(6, .bptr 2 0),(7, .bptr 3 0),(10, .bptr 4 0),(46, .agg [.list 2, .list 2, .list 2, .list 2]),(47, .int .i64),(51, .list 2),(52, .int .i64),(53, .int .i64)],[.box [.int .i64, .int .i64, .int .i64], .box [.int .i64], .box [.list 2, .list 1, .list 2], .box [.bptr 5 0], .box [.list 2, .list 2], .box [.list 2, .list 1, .list 2]],89⟩,[(AX.ret,⟨[(4, .bptr 0 0),(5, .bptr 1 0)],[.box [.int .i64, .int .i64, .int .i64], .box [.int .i64]],89⟩),((AX.exit 2),⟨[(4, .bptr 0 0),(5, .bptr 1 0),(6, .bptr 2 0),(7, .bptr 3 0),(46, .agg [.list 2, .list 2, .list 2, .list 2]),(47, .int .i64)],[.box [.int .i64, .int .i64, .int .i64], .box [.int .i64], .box [.list 2, .list 1, .list 2], .box [.bptr 4 0], .box [.list 2, .list 1, .list 2]],89⟩)]⟩⟩,
 ⟨94,[false,true],7,⟨⟨[(0, .yld 6),(1, .bptr 5 0),(6, .list 2),(7, .int .i64),(8, .int .i64)],[.box [.int .i64, .int .i64, .int .i64], .box [.int .i64], .box [.list 2, .list 1, .list 2], .box [.bptr 4 0], .box [.list 2, .list 1, .list 2], .box [.list 2], .loop Go.LoopState.ready Option.none 37 [Bool.false,Bool.true,Bool.false,Bool.true,Bool.true,Bool.true,Bool.true] 89 [(72, .clo 94 [] [.bptr 5 0]),(7, .bptr 3 0),(4, .bptr 0 0),(5, .bptr 1 0)]],33⟩,[(AX.ret,⟨[],[.box [.int .i64, .int .i64, .int .i64], .box [.int .i64], .box [.list 2, .list 1, .list 2], .box [.bptr 4 0], .box [.list 2, .list 1, .list 2], .box [.list 2], .loop Go.LoopState.ready Option.none 37 [Bool.false,Bool.true,Bool.false,Bool.true,Bool.true,Bool.true,Bool.true] 89 [(72, .clo 94 [] [.bptr 5 0]),(7, .bptr 3 0),(4, .bptr 0 0),(5, .bptr 1 0)]],33⟩),(AX.ret,⟨[],[.box [.int .i64, .int .i64, .int .i64], .box [.int .i64], .box [.list 2, .list 1, .list 2], .box [.bptr 4 0], .box [.list 2, .list 1, .list 2], .box [.list 2], .loop Go.LoopState.done (Option.some Go.Code.ret) 37 [Bool.false,Bool.true,Bool.false,Bool.true,Bool.true,Bool.true,Bool.true] 89 [(72, .clo 94 [] [.bptr 5 0]),(7, .bptr 3 0),(4, .bptr 0 0),(5, .bptr 1 0)]],33⟩),((AX.exit 0),⟨[],[.box [.int .i64, .int .i64, .int .i64], .box [.int .i64], .box [.list 2, .list 1, .list 2], .box [.bptr 4 0], .box [.list 2, .list 1, .list 2], .box [.list 2], .loop Go.LoopState.ready Option.none 37 [Bool.false,Bool.true,Bool.false,Bool.true,Bool.true,Bool.true,Bool.true] 89 [(72, .clo 94 [] [.bptr 5 0]),(7, .bptr 3 0),(4, .bptr 0 0),(5, .bptr 1 0)]],33⟩)]⟩⟩,
 ⟨94,[false,true],22,⟨⟨[(0, .yld 21),(1, .bptr 20 0),(6, .list 2),(7, .int .i64),(8, .int .i64)],[.box [.int .i64, .int .i64, .int .i64], .box [.int .i64], .box [.list 2, .list 1, .list 2], .box [.bptr 4 0], .box [.list 2, .list 1, .list 2], .box [.list 2], .dead, .box [.int .i64, .int .i64], .dead, .dead, .dead, .dead, .dead, .dead, .dead, .dead, .dead, .dead, .box [.int .i64, .int .i64], .box [.int .i64, .int .i64, .int .i64, .int .i64], .box [.list 2], .loop Go.LoopState.ready Option.none 37 [Bool.false,Bool.true,Bool.false,Bool.true,Bool.false,Bool.true,Bool.false,Bool.true,Bool.true,Bool.true,Bool.true] 89 [(78, .clo 94 [] [.bptr 20 0]),(13, .bptr 19 0),(7, .bptr 3 0),(4, .bptr 0 0),(5, .bptr 1 0)]],33⟩,[(AX.ret,⟨[],[.box [.int .i64, .int .i64, .int .i64], .box [.int .i64], .box [.list 2, .list 1, .list 2], .box [.bptr 4 0], .box [.list 2, .list 1, .list 2], .box [.list 2], .dead, .box [.int .i64, .int .i64], .dead, .dead, .dead, .dead, .dead, .dead, .dead, .dead, .dead, .dead, .box [.int .i64, .int .i64], .box [.int .i64, .int .i64, .int .i64, .int .i64], .box [.list 2], .loop Go.LoopState.ready Option.none 37 [Bool.false,Bool.true,Bool.false,Bool.true,Bool.false,Bool.true,Bool.false,Bool.true,Bool.true,Bool.true,Bool.true] 89 [(78, .clo 94 [] [.bptr 20 0]),(13, .bptr 19 0),(7, .bptr 3 0),(4, .bptr 0 0),(5, .bptr 1 0)]],33⟩),(AX.ret,⟨[],[.box [.int .i64, .int .i64, .int .i64], .box [.int .i64], .box [.list 2, .list 1, .list 2], .box [.bptr 4 0], .box [.list 2, .list 1, .list 2], .box [.list 2], .dead, .box [.int .i64, .int .i64], .dead, .dead, .dead, .dead, .dead, .dead, .dead, .dead, .dead, .dead, .box [.int .i64, .int .i64], .box [.int .i64, .int .i64, .int .i64, .int .i64], .box [.list 2], .loop Go.LoopState.done (Option.some Go.Code.ret) 37 [Bool.false,Bool.true,Bool.false,Bool.true,Bool.false,Bool.true,Bool.false,Bool.true,Bool.true,Bool.true,Bool.true] 89 [(78, .clo 94 [] [.bptr 20 0]),(13, .bptr 19 0),(7, .bptr 3 0),(4, .bptr 0 0),(5, .bptr 1 0)]],33⟩),((AX.exit 0),⟨[],[.box [.int .i64, .int .i64, .int .i64], .box [.int .i64], .box [.list 2, .list 1, .list 2], .box [.bptr 4 0], .box [.list 2, .list 1, .list 2], .box [.list 2], .dead, .box [.int .i64, .int .i64], .dead, .dead, .dead, .dead, .dead, .dead, .dead, .dead, .dead, .dead, .box [.int .i64, .int .i64], .box [.int .i64, .int .i64, .int .i64, .int .i64], .box [.list 2], .loop Go.LoopState.ready Option.none 37 [Bool.false,Bool.true,Bool.false,Bool.true,Bool.false,Bool.true,Bool.false,Bool.true,Bool.true,Bool.true,Bool.true] 89 [(78, .clo 94 [] [.bptr 20 0]),(13, .bptr 19 0),(7, .bptr 3 0),(4, .bptr 0 0),(5, .bptr 1 0)]],33⟩)]⟩⟩]
def ja37:List JA:=
 [⟨37,[true,false,true,false,true,false,true,true,true,true],19,[(AX.normal,⟨[(4, .bptr 0 0),(5, .bptr 1 0),(7, .bptr 3 0)],[.box [.int .i64, .int .i64, .int .i64], .box [.int .i64], .box [.list 2, .list 1, .list 2], .box [.bptr 4 0], .box [.list 2, .list 1, .list 2], .box [.list 2], .dead, .box [.int .i64, .int .i64], .dead, .dead, .dead, .dead, .dead, .dead, .dead, .dead, .dead, .dead, .box [.int .i64, .int .i64]],89⟩),(AX.ret,⟨[(4, .bptr 0 0),(5, .bptr 1 0)],[.box [.int .i64, .int .i64, .int .i64], .box [.int .i64], .box [.list 2, .list 1, .list 2], .box [.bptr 4 0], .box [.list 2, .list 1, .list 2], .box [.list 2], .dead, .box [.int .i64, .int .i64], .dead, .dead, .dead, .dead, .dead, .dead, .dead, .dead, .dead, .dead, .box [.int .i64, .int .i64]],89⟩)]⟩,
 ⟨37,[false,false,false,true,true,false,false,true,false,true,true,true],0,[(AX.normal,⟨[(4, .bptr 0 0),(5, .bptr 1 0),(6, .bptr 2 0),(7, .bptr 3 0),(10, .bptr 4 0),(46, .agg [.list 2, .list 2, .list 2, .list 2]),(47, .int .i64)],[.box [.int .i64, .int .i64, .int .i64], .box [.int .i64], .box [.list 2, .list 1, .list 2], .box [.bptr 5 0], .box [.list 2, .list 2], .box [.list 2, .list 1, .list 2]],89⟩)]⟩,
 ⟨37,[true,false,true,true,true,true],0,[(AX.normal,⟨[(4, .bptr 0 0),(5, .bptr 1 0)],[.box [.int .i64, .int .i64, .int .i64], .box [.int .i64]],89⟩),(AX.ret,⟨[(4, .bptr 0 0),(5, .bptr 1 0)],[.box [.int .i64, .int .i64, .int .i64], .box [.int .i64]],89⟩)]⟩]
def v7o:List CF:=
 [⟨v2e,G76⟩,⟨w2r,G57⟩,⟨x9j,G62⟩]
def an37:Anns:=
 ⟨v7o,ja37,[]⟩
def w7o (it:It) (p:Prim):(Int×(Int×(Int×(Int×(LD×(LD×(LD×(LD×(LD×(LD×(LD×(Int×(Int×(Int×(Int×(Int×(Int×(Int×(Int×(LD×(LD×(Int×(Int×Unit)))))))))))))))))))))))→Option ((Int×(Int×(Int×(Int×(LD×(LD×(LD×(LD×(LD×(LD×(LD×(Int×(Int×(Int×(Int×(Int×(Int×(Int×(Int×(LD×(LD×(Int×(Int×Unit)))))))))))))))))))))))⊕((Int×(Int×(Int×(Int×(LD×(LD×(LD×(LD×(LD×(LD×(LD×(Int×(Int×(Int×(Int×(Int×(Int×(Int×(Int×(LD×Unit))))))))))))))))))))⊕((Int×(Int×(Int×(Int×(LD×(LD×(LD×(LD×(LD×(LD×(LD×(Int×(Int×(Int×(Int×(Int×(Int×(Int×(Int×(LD×Unit))))))))))))))))))))⊕(Int×(Int×(Int×(Int×(LD×(LD×(LD×(LD×(LD×(LD×(LD×(Int×(Int×(Int×(Int×(Int×(Int×(Int×(Int×(LD×Unit))))))))))))))))))))))):=
 fun a=>opt.run _ (
 opt.ask _ (p.cmp .lss a.2.2.2.2.2.2.2.2.2.2.2.2.2.2.2.2.2.2.2.2.2.2.1 a.2.2.2.2.2.2.2.2.2.2.2.2.2.2.2.2.2.2.2.2.2.1) (
 opt.need _ (p.rowOk a.2.2.2.2.2.2.2.2.2.2.2.2.2.2.2.2.2.2.2.2.1 (p.nat a.2.2.2.2.2.2.2.2.2.2.2.2.2.2.2.2.2.2.2.2.2.2.1) [ci,ci])<|
 opt.need _ (p.cmp .geq a.2.2.2.2.2.2.2.2.2.2.2.2.2.2.2.2.2.2.2.2.2.2.1 (0:Int))<|
 opt.need _ (p.cmp .neq (p.ofNat (p.len a.2.2.2.2.2.2.2.2.2.2.2.2.2.2.2.2.2.2.2.1)) (0:Int))<|
 opt.need _ (p.rowOk a.2.2.2.2.2.2.2.2.2.2.2.2.2.2.2.2.2.2.2.1 (p.nat (p.ar .rem .i64 (p.ar .add .i64 a.2.2.2.2.2.2.2.2.2.2.2.2.2.2.2.2.2.2.2.2.2.2.1 (1:Int)) (p.ofNat (p.len a.2.2.2.2.2.2.2.2.2.2.2.2.2.2.2.2.2.2.2.1)))) [ci,ci])<|
 opt.need _ (p.cmp .geq (p.ar .rem .i64 (p.ar .add .i64 a.2.2.2.2.2.2.2.2.2.2.2.2.2.2.2.2.2.2.2.2.2.2.1 (1:Int)) (p.ofNat (p.len a.2.2.2.2.2.2.2.2.2.2.2.2.2.2.2.2.2.2.2.1))) (0:Int))<|
 opt.ask _ (bif (p.cmp .eql (p.ar .sub .i64 (p.rdI a.2.2.2.2.2.2.2.2.2.2.2.2.2.2.2.2.2.2.2.1 (p.nat (p.ar .rem .i64 (p.ar .add .i64 a.2.2.2.2.2.2.2.2.2.2.2.2.2.2.2.2.2.2.2.2.2.2.1 (1:Int)) (p.ofNat (p.len a.2.2.2.2.2.2.2.2.2.2.2.2.2.2.2.2.2.2.2.1)))) 0) (p.rdI a.2.2.2.2.2.2.2.2.2.2.2.2.2.2.2.2.2.2.2.2.1 (p.nat a.2.2.2.2.2.2.2.2.2.2.2.2.2.2.2.2.2.2.2.2.2.2.1) 0)) (0:Int)) then (bif (p.cmp .eql (p.ar .sub .i64 (p.rdI a.2.2.2.2.2.2.2.2.2.2.2.2.2.2.2.2.2.2.2.1 (p.nat (p.ar .rem .i64 (p.ar .add .i64 a.2.2.2.2.2.2.2.2.2.2.2.2.2.2.2.2.2.2.2.2.2.2.1 (1:Int)) (p.ofNat (p.len a.2.2.2.2.2.2.2.2.2.2.2.2.2.2.2.2.2.2.2.1)))) 1) (p.rdI a.2.2.2.2.2.2.2.2.2.2.2.2.2.2.2.2.2.2.2.2.1 (p.nat a.2.2.2.2.2.2.2.2.2.2.2.2.2.2.2.2.2.2.2.2.2.2.1) 1)) (0:Int)) then Bool.true else Bool.false) else Bool.false) (
 opt.ret _ (Sum.inr (Sum.inl (a.1,(a.2.1,(a.2.2.1,(a.2.2.2.1,(a.2.2.2.2.1,(a.2.2.2.2.2.1,(a.2.2.2.2.2.2.1,(a.2.2.2.2.2.2.2.1,(a.2.2.2.2.2.2.2.2.1,(a.2.2.2.2.2.2.2.2.2.1,(a.2.2.2.2.2.2.2.2.2.2.1,(a.2.2.2.2.2.2.2.2.2.2.2.1,(a.2.2.2.2.2.2.2.2.2.2.2.2.1,(a.2.2.2.2.2.2.2.2.2.2.2.2.2.1,(a.2.2.2.2.2.2.2.2.2.2.2.2.2.2.1,(a.2.2.2.2.2.2.2.2.2.2.2.2.2.2.2.1,(a.2.2.2.2.2.2.2.2.2.2.2.2.2.2.2.2.1,(a.2.2.2.2.2.2.2.2.2.2.2.2.2.2.2.2.2.1,(a.2.2.2.2.2.2.2.2.2.2.2.2.2.2.2.2.2.2.1,(a.2.2.2.2.2.2.2.2.2.2.2.2.2.2.2.2.2.2.2.1,()))))))))))))))))))))))) (
 opt.bnd T20 _ (g76 it p (a.2.2.2.2.2.2.2.2.2.2.2.2.2.2.2.1,(a.2.2.2.2.2.2.2.2.2.2.2.2.2.2.2.2.1,(a.2.2.2.2.2.2.2.2.2.2.2.2.2.2.2.2.2.1,(a.2.2.2.2.2.2.2.2.2.2.2.2.2.2.2.2.2.2.1,((p.rdI a.2.2.2.2.2.2.2.2.2.2.2.2.2.2.2.2.2.2.2.2.1 (p.nat a.2.2.2.2.2.2.2.2.2.2.2.2.2.2.2.2.2.2.2.2.2.2.1) 0),((p.rdI a.2.2.2.2.2.2.2.2.2.2.2.2.2.2.2.2.2.2.2.2.1 (p.nat a.2.2.2.2.2.2.2.2.2.2.2.2.2.2.2.2.2.2.2.2.2.2.1) 1),((p.ar .sub .i64 (p.rdI a.2.2.2.2.2.2.2.2.2.2.2.2.2.2.2.2.2.2.2.1 (p.nat (p.ar .rem .i64 (p.ar .add .i64 a.2.2.2.2.2.2.2.2.2.2.2.2.2.2.2.2.2.2.2.2.2.2.1 (1:Int)) (p.ofNat (p.len a.2.2.2.2.2.2.2.2.2.2.2.2.2.2.2.2.2.2.2.1)))) 0) (p.rdI a.2.2.2.2.2.2.2.2.2.2.2.2.2.2.2.2.2.2.2.2.1 (p.nat a.2.2.2.2.2.2.2.2.2.2.2.2.2.2.2.2.2.2.2.2.2.2.1) 0)),((p.ar .sub .i64 (p.rdI a.2.2.2.2.2.2.2.2.2.2.2.2.2.2.2.2.2.2.2.1 (p.nat (p.ar .rem .i64 (p.ar .add .i64 a.2.2.2.2.2.2.2.2.2.2.2.2.2.2.2.2.2.2.2.2.2.2.1 (1:Int)) (p.ofNat (p.len a.2.2.2.2.2.2.2.2.2.2.2.2.2.2.2.2.2.2.2.1)))) 1) (p.rdI a.2.2.2.2.2.2.2.2.2.2.2.2.2.2.2.2.2.2.2.2.1 (p.nat a.2.2.2.2.2.2.2.2.2.2.2.2.2.2.2.2.2.2.2.2.2.2.1) 1)),()))))))))) fun b=>
 opt.ask _ b.2.2.2.1 (
 opt.ret _ (Sum.inr (Sum.inr (Sum.inl (b.1,(b.2.1,(b.2.2.1,((0:Int),(a.2.2.2.2.1,(a.2.2.2.2.2.1,(a.2.2.2.2.2.2.1,(a.2.2.2.2.2.2.2.1,(a.2.2.2.2.2.2.2.2.1,(a.2.2.2.2.2.2.2.2.2.1,(a.2.2.2.2.2.2.2.2.2.2.1,(a.2.2.2.2.2.2.2.2.2.2.2.1,(a.2.2.2.2.2.2.2.2.2.2.2.2.1,(a.2.2.2.2.2.2.2.2.2.2.2.2.2.1,(a.2.2.2.2.2.2.2.2.2.2.2.2.2.2.1,(a.2.2.2.2.2.2.2.2.2.2.2.2.2.2.2.1,(a.2.2.2.2.2.2.2.2.2.2.2.2.2.2.2.2.1,(a.2.2.2.2.2.2.2.2.2.2.2.2.2.2.2.2.2.1,(a.2.2.2.2.2.2.2.2.2.2.2.2.2.2.2.2.2.2.1,(a.2.2.2.2.2.2.2.2.2.2.2.2.2.2.2.2.2.2.2.1,())))))))))))))))))))))))) (
 opt.ret _ (Sum.inl (a.1,(a.2.1,(a.2.2.1,(a.2.2.2.1,(a.2.2.2.2.1,(a.2.2.2.2.2.1,(a.2.2.2.2.2.2.1,(a.2.2.2.2.2.2.2.1,(a.2.2.2.2.2.2.2.2.1,(a.2.2.2.2.2.2.2.2.2.1,(a.2.2.2.2.2.2.2.2.2.2.1,(a.2.2.2.2.2.2.2.2.2.2.2.1,(a.2.2.2.2.2.2.2.2.2.2.2.2.1,(a.2.2.2.2.2.2.2.2.2.2.2.2.2.1,(a.2.2.2.2.2.2.2.2.2.2.2.2.2.2.1,(a.2.2.2.2.2.2.2.2.2.2.2.2.2.2.2.1,(a.2.2.2.2.2.2.2.2.2.2.2.2.2.2.2.2.1,(a.2.2.2.2.2.2.2.2.2.2.2.2.2.2.2.2.2.1,(a.2.2.2.2.2.2.2.2.2.2.2.2.2.2.2.2.2.2.1,(a.2.2.2.2.2.2.2.2.2.2.2.2.2.2.2.2.2.2.2.1,(a.2.2.2.2.2.2.2.2.2.2.2.2.2.2.2.2.2.2.2.2.1,(a.2.2.2.2.2.2.2.2.2.2.2.2.2.2.2.2.2.2.2.2.2.1,((p.ar .add .i64 a.2.2.2.2.2.2.2.2.2.2.2.2.2.2.2.2.2.2.2.2.2.2.1 (1:Int)),()))))))))))))))))))))))))))) (
 opt.ret _ (Sum.inr (Sum.inr (Sum.inr (a.1,(a.2.1,(a.2.2.1,(a.2.2.2.1,(a.2.2.2.2.1,(a.2.2.2.2.2.1,(a.2.2.2.2.2.2.1,(a.2.2.2.2.2.2.2.1,(a.2.2.2.2.2.2.2.2.1,(a.2.2.2.2.2.2.2.2.2.1,(a.2.2.2.2.2.2.2.2.2.2.1,(a.2.2.2.2.2.2.2.2.2.2.2.1,(a.2.2.2.2.2.2.2.2.2.2.2.2.1,(a.2.2.2.2.2.2.2.2.2.2.2.2.2.1,(a.2.2.2.2.2.2.2.2.2.2.2.2.2.2.1,(a.2.2.2.2.2.2.2.2.2.2.2.2.2.2.2.1,(a.2.2.2.2.2.2.2.2.2.2.2.2.2.2.2.2.1,(a.2.2.2.2.2.2.2.2.2.2.2.2.2.2.2.2.2.1,(a.2.2.2.2.2.2.2.2.2.2.2.2.2.2.2.2.2.2.1,(a.2.2.2.2.2.2.2.2.2.2.2.2.2.2.2.2.2.2.2.1,())))))))))))))))))))))))))
def w7p (it:It) (p:Prim):(Int×(Int×(Int×(Int×(LD×(LD×(LD×(LD×(LD×(LD×(LD×(LD×(Int×(Int×Unit))))))))))))))→Option ((Int×(Int×(Int×(Int×(LD×(LD×(LD×(LD×(LD×(LD×(LD×(LD×(Int×(Int×Unit))))))))))))))⊕((Int×(Int×(Int×(Int×(LD×(LD×(LD×(LD×(LD×(LD×(LD×Unit)))))))))))⊕((Int×(Int×(Int×(Int×(LD×(LD×(LD×(LD×(LD×(LD×(LD×Unit)))))))))))⊕(Int×(Int×(Int×(Int×(LD×(LD×(LD×(LD×(LD×(LD×(LD×Unit)))))))))))))):=
 fun a=>opt.run _ (
 opt.ask _ (p.cmp .lss a.2.2.2.2.2.2.2.2.2.2.2.2.2.1 a.2.2.2.2.2.2.2.2.2.2.2.2.1) (
 opt.need _ (p.rowOk a.2.2.2.2.2.2.2.2.2.2.2.1 (p.nat a.2.2.2.2.2.2.2.2.2.2.2.2.2.1) [ci,ci])<|
 opt.need _ (p.cmp .geq a.2.2.2.2.2.2.2.2.2.2.2.2.2.1 (0:Int))<|
 opt.need _ (p.cmp .neq (p.ofNat (p.len a.2.2.2.2.2.2.2.2.2.2.1)) (0:Int))<|
 opt.need _ (p.rowOk a.2.2.2.2.2.2.2.2.2.2.1 (p.nat (p.ar .rem .i64 (p.ar .add .i64 a.2.2.2.2.2.2.2.2.2.2.2.2.2.1 (1:Int)) (p.ofNat (p.len a.2.2.2.2.2.2.2.2.2.2.1)))) [ci,ci])<|
 opt.need _ (p.cmp .geq (p.ar .rem .i64 (p.ar .add .i64 a.2.2.2.2.2.2.2.2.2.2.2.2.2.1 (1:Int)) (p.ofNat (p.len a.2.2.2.2.2.2.2.2.2.2.1))) (0:Int))<|
 opt.ask _ (bif (p.cmp .eql (p.ar .sub .i64 (p.rdI a.2.2.2.2.2.2.2.2.2.2.1 (p.nat (p.ar .rem .i64 (p.ar .add .i64 a.2.2.2.2.2.2.2.2.2.2.2.2.2.1 (1:Int)) (p.ofNat (p.len a.2.2.2.2.2.2.2.2.2.2.1)))) 0) (p.rdI a.2.2.2.2.2.2.2.2.2.2.2.1 (p.nat a.2.2.2.2.2.2.2.2.2.2.2.2.2.1) 0)) (0:Int)) then (bif (p.cmp .eql (p.ar .sub .i64 (p.rdI a.2.2.2.2.2.2.2.2.2.2.1 (p.nat (p.ar .rem .i64 (p.ar .add .i64 a.2.2.2.2.2.2.2.2.2.2.2.2.2.1 (1:Int)) (p.ofNat (p.len a.2.2.2.2.2.2.2.2.2.2.1)))) 1) (p.rdI a.2.2.2.2.2.2.2.2.2.2.2.1 (p.nat a.2.2.2.2.2.2.2.2.2.2.2.2.2.1) 1)) (0:Int)) then Bool.true else Bool.false) else Bool.false) (
 opt.ret _ (Sum.inr (Sum.inl (a.1,(a.2.1,(a.2.2.1,(a.2.2.2.1,(a.2.2.2.2.1,(a.2.2.2.2.2.1,(a.2.2.2.2.2.2.1,(a.2.2.2.2.2.2.2.1,(a.2.2.2.2.2.2.2.2.1,(a.2.2.2.2.2.2.2.2.2.1,(a.2.2.2.2.2.2.2.2.2.2.1,())))))))))))))) (
 opt.alt T46 T46 _ (
 opt.run (((Int×(Int×(Int×(Int×(LD×(LD×(LD×(LD×(LD×(LD×(LD×(Int×(Int×(Int×(Int×Unit)))))))))))))))⊕(Int×(Int×(Int×(Int×(LD×(LD×(LD×(LD×(LD×(LD×(LD×(Int×(Int×(Int×(Int×Unit))))))))))))))))) (
 opt.alt T37 (((Int×(Int×(Int×(Int×(LD×(LD×(LD×(LD×(LD×(LD×(LD×(Int×(Int×(Int×(Int×(Int×(Int×(Int×(Int×(LD×Unit))))))))))))))))))))⊕(Int×(Int×(Int×(Int×(LD×(LD×(LD×(LD×(LD×(LD×(LD×(Int×(Int×(Int×(Int×(Int×(Int×(Int×(Int×(LD×Unit)))))))))))))))))))))) _ (
 it _ _ (w7o it p) (a.1,(a.2.1,(a.2.2.1,(a.2.2.2.1,(a.2.2.2.2.1,(a.2.2.2.2.2.1,(a.2.2.2.2.2.2.1,(a.2.2.2.2.2.2.2.1,(a.2.2.2.2.2.2.2.2.1,(a.2.2.2.2.2.2.2.2.2.1,(a.2.2.2.2.2.2.2.2.2.2.1,((p.rdI a.2.2.2.2.2.2.2.2.2.2.2.1 (p.nat a.2.2.2.2.2.2.2.2.2.2.2.2.2.1) 0),((p.rdI a.2.2.2.2.2.2.2.2.2.2.2.1 (p.nat a.2.2.2.2.2.2.2.2.2.2.2.2.2.1) 1),((p.ar .sub .i64 (p.rdI a.2.2.2.2.2.2.2.2.2.2.1 (p.nat (p.ar .rem .i64 (p.ar .add .i64 a.2.2.2.2.2.2.2.2.2.2.2.2.2.1 (1:Int)) (p.ofNat (p.len a.2.2.2.2.2.2.2.2.2.2.1)))) 0) (p.rdI a.2.2.2.2.2.2.2.2.2.2.2.1 (p.nat a.2.2.2.2.2.2.2.2.2.2.2.2.2.1) 0)),((p.ar .sub .i64 (p.rdI a.2.2.2.2.2.2.2.2.2.2.1 (p.nat (p.ar .rem .i64 (p.ar .add .i64 a.2.2.2.2.2.2.2.2.2.2.2.2.2.1 (1:Int)) (p.ofNat (p.len a.2.2.2.2.2.2.2.2.2.2.1)))) 1) (p.rdI a.2.2.2.2.2.2.2.2.2.2.2.1 (p.nat a.2.2.2.2.2.2.2.2.2.2.2.2.2.1) 1)),((p.rdI a.2.2.2.2.2.2.2.2.2.2.2.1 (p.nat a.2.2.2.2.2.2.2.2.2.2.2.2.2.1) 0),((p.rdI a.2.2.2.2.2.2.2.2.2.2.2.1 (p.nat a.2.2.2.2.2.2.2.2.2.2.2.2.2.1) 1),((p.ar .sub .i64 (p.rdI a.2.2.2.2.2.2.2.2.2.2.1 (p.nat (p.ar .rem .i64 (p.ar .add .i64 a.2.2.2.2.2.2.2.2.2.2.2.2.2.1 (1:Int)) (p.ofNat (p.len a.2.2.2.2.2.2.2.2.2.2.1)))) 0) (p.rdI a.2.2.2.2.2.2.2.2.2.2.2.1 (p.nat a.2.2.2.2.2.2.2.2.2.2.2.2.2.1) 0)),((p.ar .sub .i64 (p.rdI a.2.2.2.2.2.2.2.2.2.2.1 (p.nat (p.ar .rem .i64 (p.ar .add .i64 a.2.2.2.2.2.2.2.2.2.2.2.2.2.1 (1:Int)) (p.ofNat (p.len a.2.2.2.2.2.2.2.2.2.2.1)))) 1) (p.rdI a.2.2.2.2.2.2.2.2.2.2.2.1 (p.nat a.2.2.2.2.2.2.2.2.2.2.2.2.2.1) 1)),(a.2.2.2.2.2.2.2.2.2.1,(a.2.2.2.2.2.2.2.2.2.1,((p.ofNat (p.len a.2.2.2.2.2.2.2.2.2.1)),((0:Int),())))))))))))))))))))))))) (fun b=>
 opt.ret _ (Sum.inl (b.1,(b.2.1,(b.2.2.1,(b.2.2.2.1,(b.2.2.2.2.1,(b.2.2.2.2.2.1,(b.2.2.2.2.2.2.1,(b.2.2.2.2.2.2.2.1,(b.2.2.2.2.2.2.2.2.1,(b.2.2.2.2.2.2.2.2.2.1,(b.2.2.2.2.2.2.2.2.2.2.1,(b.2.2.2.2.2.2.2.2.2.2.2.1,(b.2.2.2.2.2.2.2.2.2.2.2.2.1,(b.2.2.2.2.2.2.2.2.2.2.2.2.2.1,(b.2.2.2.2.2.2.2.2.2.2.2.2.2.2.1,()))))))))))))))))) (fun c=>
 opt.alt T37 T37 _ (some c) (fun d=>
 opt.ret _ (Sum.inr (d.1,(d.2.1,(d.2.2.1,(d.2.2.2.1,(d.2.2.2.2.1,(d.2.2.2.2.2.1,(d.2.2.2.2.2.2.1,(d.2.2.2.2.2.2.2.1,(d.2.2.2.2.2.2.2.2.1,(d.2.2.2.2.2.2.2.2.2.1,(d.2.2.2.2.2.2.2.2.2.2.1,(d.2.2.2.2.2.2.2.2.2.2.2.1,(d.2.2.2.2.2.2.2.2.2.2.2.2.1,(d.2.2.2.2.2.2.2.2.2.2.2.2.2.1,(d.2.2.2.2.2.2.2.2.2.2.2.2.2.2.1,()))))))))))))))))) (fun e=>
 opt.bnd T37 _ (some e) fun f=>
 opt.ret _ (Sum.inl (f.1,(f.2.1,(f.2.2.1,(f.2.2.2.1,(f.2.2.2.2.1,(f.2.2.2.2.2.1,(f.2.2.2.2.2.2.1,(f.2.2.2.2.2.2.2.1,(f.2.2.2.2.2.2.2.2.1,(f.2.2.2.2.2.2.2.2.2.1,(f.2.2.2.2.2.2.2.2.2.2.1,(f.2.2.2.2.2.2.2.2.2.2.2.1,(f.2.2.2.2.2.2.2.2.2.2.2.2.1,(f.2.2.2.2.2.2.2.2.2.2.2.2.2.1,(f.2.2.2.2.2.2.2.2.2.2.2.2.2.2.1,())))))))))))))))))))) (fun g=>
 opt.ret _ (Sum.inl (g.1,(g.2.1,(g.2.2.1,(g.2.2.2.1,(g.2.2.2.2.1,(g.2.2.2.2.2.1,(g.2.2.2.2.2.2.1,(g.2.2.2.2.2.2.2.1,(g.2.2.2.2.2.2.2.2.1,(g.2.2.2.2.2.2.2.2.2.1,(g.2.2.2.2.2.2.2.2.2.2.1,(a.2.2.2.2.2.2.2.2.2.2.2.1,(a.2.2.2.2.2.2.2.2.2.2.2.2.1,((p.ar .add .i64 a.2.2.2.2.2.2.2.2.2.2.2.2.2.1 (1:Int)),())))))))))))))))) (fun h=>
 opt.bnd T46 _ (some h) fun i=>
 opt.ret _ (Sum.inr (Sum.inr (Sum.inl (i.1,(i.2.1,(i.2.2.1,(i.2.2.2.1,(i.2.2.2.2.1,(i.2.2.2.2.2.1,(i.2.2.2.2.2.2.1,(i.2.2.2.2.2.2.2.1,(i.2.2.2.2.2.2.2.2.1,(i.2.2.2.2.2.2.2.2.2.1,(i.2.2.2.2.2.2.2.2.2.2.1,()))))))))))))))))) (
 opt.ret _ (Sum.inr (Sum.inr (Sum.inr (a.1,(a.2.1,(a.2.2.1,(a.2.2.2.1,(a.2.2.2.2.1,(a.2.2.2.2.2.1,(a.2.2.2.2.2.2.1,(a.2.2.2.2.2.2.2.1,(a.2.2.2.2.2.2.2.2.1,(a.2.2.2.2.2.2.2.2.2.1,(a.2.2.2.2.2.2.2.2.2.2.1,()))))))))))))))))
def w7q (it:It) (p:Prim):(Int×(Int×(Int×(Int×(LD×(LD×(LD×(LD×(LD×(LD×(LD×(LD×(LD×(LD×(LD×(LD×(Int×(LD×(Int×(Int×Unit))))))))))))))))))))→Option ((Int×(Int×(Int×(Int×(LD×(LD×(LD×(LD×(LD×(LD×(LD×(LD×(LD×(LD×(LD×(LD×(Int×(LD×(Int×(Int×Unit))))))))))))))))))))⊕((Int×(Int×(Int×(Int×Unit))))⊕(Int×(Int×(Int×(Int×(LD×(LD×(LD×(LD×(LD×(LD×(LD×(LD×(LD×(LD×(Int×Unit))))))))))))))))):=
 fun a=>opt.run _ (
 opt.ask _ (p.cmp .lss a.2.2.2.2.2.2.2.2.2.2.2.2.2.2.2.2.2.2.2.1 a.2.2.2.2.2.2.2.2.2.2.2.2.2.2.2.2.2.2.1) (
 opt.need _ (p.rowOk a.2.2.2.2.2.2.2.2.2.2.2.2.2.2.2.2.2.1 (p.nat a.2.2.2.2.2.2.2.2.2.2.2.2.2.2.2.2.2.2.2.1) [ci,ci])<|
 opt.need _ (p.cmp .geq a.2.2.2.2.2.2.2.2.2.2.2.2.2.2.2.2.2.2.2.1 (0:Int))<|
 opt.bnd T2 _ (g57 it p (a.2.2.2.2.2.2.2.2.1,((p.rdI a.2.2.2.2.2.2.2.2.2.2.2.2.2.2.2.2.2.1 (p.nat a.2.2.2.2.2.2.2.2.2.2.2.2.2.2.2.2.2.2.2.1) 0),((p.rdI a.2.2.2.2.2.2.2.2.2.2.2.2.2.2.2.2.2.1 (p.nat a.2.2.2.2.2.2.2.2.2.2.2.2.2.2.2.2.2.2.2.1) 1),((1:Int),()))))) fun b=>
 opt.ask _ b.1 (
 opt.ret _ (Sum.inr (Sum.inl ((p.rdI a.2.2.2.2.2.2.2.2.2.2.2.2.2.2.2.2.2.1 (p.nat a.2.2.2.2.2.2.2.2.2.2.2.2.2.2.2.2.2.2.2.1) 0),((p.rdI a.2.2.2.2.2.2.2.2.2.2.2.2.2.2.2.2.2.1 (p.nat a.2.2.2.2.2.2.2.2.2.2.2.2.2.2.2.2.2.2.2.1) 1),((1:Int),((0:Int),()))))))) (
 opt.ret _ (Sum.inl (a.1,(a.2.1,(a.2.2.1,(a.2.2.2.1,(a.2.2.2.2.1,(a.2.2.2.2.2.1,(a.2.2.2.2.2.2.1,(a.2.2.2.2.2.2.2.1,(a.2.2.2.2.2.2.2.2.1,(a.2.2.2.2.2.2.2.2.2.1,(a.2.2.2.2.2.2.2.2.2.2.1,(a.2.2.2.2.2.2.2.2.2.2.2.1,(a.2.2.2.2.2.2.2.2.2.2.2.2.1,(a.2.2.2.2.2.2.2.2.2.2.2.2.2.1,(a.2.2.2.2.2.2.2.2.2.2.2.2.2.2.1,(a.2.2.2.2.2.2.2.2.2.2.2.2.2.2.2.1,(a.2.2.2.2.2.2.2.2.2.2.2.2.2.2.2.2.1,(a.2.2.2.2.2.2.2.2.2.2.2.2.2.2.2.2.2.1,(a.2.2.2.2.2.2.2.2.2.2.2.2.2.2.2.2.2.2.1,((p.ar .add .i64 a.2.2.2.2.2.2.2.2.2.2.2.2.2.2.2.2.2.2.2.1 (1:Int)),()))))))))))))))))))))))) (
 opt.ret _ (Sum.inr (Sum.inr (a.1,(a.2.1,(a.2.2.1,(a.2.2.2.1,(a.2.2.2.2.1,(a.2.2.2.2.2.1,(a.2.2.2.2.2.2.1,(a.2.2.2.2.2.2.2.2.2.1,(a.2.2.2.2.2.2.2.2.2.2.1,(a.2.2.2.2.2.2.2.2.2.2.2.1,(a.2.2.2.2.2.2.2.2.2.2.2.2.1,(a.2.2.2.2.2.2.2.2.2.2.2.2.2.1,(a.2.2.2.2.2.2.2.2.2.2.2.2.2.2.1,(a.2.2.2.2.2.2.2.2.2.2.2.2.2.2.2.1,(a.2.2.2.2.2.2.2.2.2.2.2.2.2.2.2.2.1,())))))))))))))))))))
def w7r (it:It) (p:Prim):(Int×(Int×(Int×(Int×(LD×(LD×(LD×(LD×(LD×(LD×(LD×(LD×(LD×(LD×(Int×Unit)))))))))))))))→Option ((Int×(Int×(Int×(Int×(LD×(LD×(LD×(LD×(LD×(LD×(LD×(LD×(LD×(LD×(Int×Unit)))))))))))))))⊕((Int×(Int×(Int×(Int×Unit))))⊕(Int×(Int×(Int×(Int×(LD×(LD×(LD×(LD×(LD×(LD×Unit)))))))))))):=
 fun a=>opt.run _ (
 opt.ask _ (p.cmp .lss a.2.2.2.2.2.2.2.2.2.2.2.2.2.2.1 (2:Int)) (
 opt.bnd T71 _ (
 opt.run T71 (
 opt.ask _ (p.cmp .eql a.2.2.2.2.2.2.2.2.2.2.2.2.2.2.1 (0:Int)) (
 opt.need _ (bif (p.cmp .geq (0:Int) (0:Int)) then (p.cmp .lss (0:Int) (p.ofNat 2)) else Bool.false)<|
 opt.ret _ (a.1,(a.2.1,(a.2.2.1,(a.2.2.2.1,(a.2.2.2.2.1,(a.2.2.2.2.2.1,(a.2.2.2.2.2.2.1,(a.2.2.2.2.2.2.2.2.2.2.1,(a.2.2.2.2.2.2.2.2.2.2.2.1,(a.2.2.2.2.2.2.2.1,(a.2.2.2.2.2.2.2.2.1,(a.2.2.2.2.2.2.2.2.2.1,(a.2.2.2.2.2.2.2.2.2.2.1,(a.2.2.2.2.2.2.2.2.2.2.2.1,(a.2.2.2.2.2.2.2.2.2.2.2.2.1,(a.2.2.2.2.2.2.2.2.2.2.2.2.2.1,((0:Int),())))))))))))))))))) (
 opt.need _ (p.cmp .eql a.2.2.2.2.2.2.2.2.2.2.2.2.2.2.1 (1:Int))<|
 opt.need _ (bif (p.cmp .geq (1:Int) (0:Int)) then (p.cmp .lss (1:Int) (p.ofNat 2)) else Bool.false)<|
 opt.ret _ (a.1,(a.2.1,(a.2.2.1,(a.2.2.2.1,(a.2.2.2.2.1,(a.2.2.2.2.2.1,(a.2.2.2.2.2.2.1,(a.2.2.2.2.2.2.2.2.2.2.2.2.1,(a.2.2.2.2.2.2.2.2.2.2.2.2.2.1,(a.2.2.2.2.2.2.2.1,(a.2.2.2.2.2.2.2.2.1,(a.2.2.2.2.2.2.2.2.2.1,(a.2.2.2.2.2.2.2.2.2.2.1,(a.2.2.2.2.2.2.2.2.2.2.2.1,(a.2.2.2.2.2.2.2.2.2.2.2.2.1,(a.2.2.2.2.2.2.2.2.2.2.2.2.2.1,((1:Int),())))))))))))))))))))) fun b=>
 opt.alt T10 T72 _ (
 it _ _ (w7q it p) (b.1,(b.2.1,(b.2.2.1,(b.2.2.2.1,(b.2.2.2.2.1,(b.2.2.2.2.2.1,(b.2.2.2.2.2.2.1,(b.2.2.2.2.2.2.2.1,(b.2.2.2.2.2.2.2.2.1,(b.2.2.2.2.2.2.2.2.2.1,(b.2.2.2.2.2.2.2.2.2.2.1,(b.2.2.2.2.2.2.2.2.2.2.2.1,(b.2.2.2.2.2.2.2.2.2.2.2.2.1,(b.2.2.2.2.2.2.2.2.2.2.2.2.2.1,(b.2.2.2.2.2.2.2.2.2.2.2.2.2.2.1,(b.2.2.2.2.2.2.2.2.2.2.2.2.2.2.2.1,(b.2.2.2.2.2.2.2.2.2.2.2.2.2.2.2.2.1,(b.2.2.2.2.2.2.2.1,((p.ofNat (p.len b.2.2.2.2.2.2.2.1)),((0:Int),()))))))))))))))))))))) (fun c=>
 opt.ret _ (Sum.inr (Sum.inl (c.1,(c.2.1,(c.2.2.1,(c.2.2.2.1,()))))))) (fun d=>
 opt.bnd T72 _ (some d) fun e=>
 opt.ret _ (Sum.inl (e.1,(e.2.1,(e.2.2.1,(e.2.2.2.1,(e.2.2.2.2.1,(e.2.2.2.2.2.1,(e.2.2.2.2.2.2.1,(e.2.2.2.2.2.2.2.1,(e.2.2.2.2.2.2.2.2.1,(e.2.2.2.2.2.2.2.2.2.1,(e.2.2.2.2.2.2.2.2.2.2.1,(e.2.2.2.2.2.2.2.2.2.2.2.1,(e.2.2.2.2.2.2.2.2.2.2.2.2.1,(e.2.2.2.2.2.2.2.2.2.2.2.2.2.1,((p.ar .add .i64 e.2.2.2.2.2.2.2.2.2.2.2.2.2.2.1 (1:Int)),())))))))))))))))))) (
 opt.ret _ (Sum.inr (Sum.inr (a.1,(a.2.1,(a.2.2.1,(a.2.2.2.1,(a.2.2.2.2.1,(a.2.2.2.2.2.1,(a.2.2.2.2.2.2.1,(a.2.2.2.2.2.2.2.1,(a.2.2.2.2.2.2.2.2.1,(a.2.2.2.2.2.2.2.2.2.1,()))))))))))))))
def g37 (it:It):(p:Prim)→(LD×(LD×(LD×(LD×Unit))))→Option T10:=
 fun p x=>
 opt.alt T0 (((LD×(LD×(LD×T1)))⊕((LD×(LD×(LD×T1)))⊕(LD×(LD×(LD×(LD×(LD×(LD×T1))))))))) _ (g62 it p (x.1,(x.2.1,(x.2.2.1,(x.2.2.2.1,()))))) (fun a=>
 opt.ask _ (p.cmp .neq a.1 (0:Int)) (
 opt.ret _ ((0:Int),((0:Int),((0:Int),(a.1,()))))) (
 opt.no _ 41)) (fun b=>
 opt.alt ((LD×(LD×(LD×T1)))) (((LD×(LD×(LD×T1)))⊕(LD×(LD×(LD×(LD×(LD×(LD×T1)))))))) _ (some b) (fun c=>
 opt.ask _ (p.cmp .neq c.2.2.2.1 (0:Int)) (
 opt.ret _ ((0:Int),((0:Int),((0:Int),(c.2.2.2.1,()))))) (
 opt.no _ 41)) (fun d=>
 opt.alt ((LD×(LD×(LD×T1)))) ((LD×(LD×(LD×(LD×(LD×(LD×T1))))))) _ (some d) (fun e=>
 opt.ask _ (p.cmp .neq e.2.2.2.1 (0:Int)) (
 opt.ret _ ((0:Int),((0:Int),((0:Int),(e.2.2.2.1,()))))) (
 opt.no _ 41)) (fun f=>
 opt.bnd ((LD×(LD×(LD×(LD×(LD×(LD×T1))))))) _ (some f) fun g=>
 opt.ask _ (p.cmp .neq g.2.2.2.2.2.2.1 (0:Int)) (
 opt.ret _ ((0:Int),((0:Int),((0:Int),(g.2.2.2.2.2.2.1,()))))) (
 opt.alt T10 T73 _ (
 it _ _ (w7r it p) ((0:Int),((0:Int),((0:Int),((0:Int),(g.1,(g.2.1,(g.2.2.1,(g.2.2.2.1,(g.2.2.2.2.1,(g.2.2.2.2.2.1,(g.2.2.1,(g.2.2.2.2.2.1,(g.2.2.2.2.2.1,(g.2.2.1,((0:Int),())))))))))))))))) (fun h=>
 opt.ret _ (h.1,(h.2.1,(h.2.2.1,(h.2.2.2.1,()))))) (fun i=>
 opt.bnd T73 _ (some i) fun j=>
 opt.alt T10 T10 _ (
 opt.run (((Int×(Int×(Int×(Int×Unit))))⊕(Int×(Int×(Int×(Int×Unit)))))) (
 opt.alt T38 (((Int×(Int×(Int×(Int×(LD×(LD×(LD×(LD×(LD×(LD×(LD×Unit)))))))))))⊕(Int×(Int×(Int×(Int×(LD×(LD×(LD×(LD×(LD×(LD×(LD×Unit))))))))))))) _ (
 it _ _ (w7p it p) (j.1,(j.2.1,(j.2.2.1,(j.2.2.2.1,(j.2.2.2.2.1,(j.2.2.2.2.2.1,(j.2.2.2.2.2.2.1,(j.2.2.2.2.2.2.2.1,(j.2.2.2.2.2.2.2.2.1,(j.2.2.2.2.2.2.2.2.2.1,(j.2.2.2.2.2.2.1,(j.2.2.2.2.2.2.1,((p.ofNat (p.len j.2.2.2.2.2.2.1)),((0:Int),()))))))))))))))) (fun k=>
 opt.ret _ (Sum.inl (k.1,(k.2.1,(k.2.2.1,(k.2.2.2.1,())))))) (fun l=>
 opt.alt T38 T38 _ (some l) (fun m=>
 opt.ret _ (Sum.inr (m.1,(m.2.1,(m.2.2.1,(m.2.2.2.1,())))))) (fun n=>
 opt.bnd T38 _ (some n) fun o=>
 opt.ret _ (Sum.inl (o.1,(o.2.1,(o.2.2.1,(o.2.2.2.1,()))))))))) (fun q=>
 opt.ret _ ((0:Int),((0:Int),((0:Int),((5:Int),()))))) (fun r=>
 opt.bnd T10 _ (some r) fun t=>
 opt.ret _ (t.1,(t.2.1,(t.2.2.1,(t.2.2.2.1,()))))))))))
def G37:=g37 it0
theorem ok37:CtrOk PG v2p (G37 std):=okF (a:=an37) (l:=la37) (gC ok76 (gC v5c (gC v4k (gN)))) (by kernel_rfl) fun _ _=>by kernel_rfl
end Go.Am
end
noncomputable section
namespace Go.Am
def v2f:Ctr:=
 ⟨70,[.agg [.int .i64, .int .i64], .agg [.int .i64, .int .i64]],[],[(.ret,⟨[(0, .int .i64)],[],1⟩)]⟩
def la70:List LA:=
 []
def ja70:List JA:=
 []
def v63:List CF:=
 [⟨z4q,F71⟩]
def an70:Anns:=
 ⟨v63,ja70,[]⟩
def G70:(p:Prim)→T9→Option T0:=
 fun p x=>
 opt.bnd T2 _ (F71 p (x.1,(x.2.1,(x.2.2.1,(x.2.2.2.1,()))))) fun a=>
 opt.ask _ a.1 (
 opt.ret _ ((-1:Int),())) (
 opt.ret _ ((1:Int),()))
theorem ok70:CtrOk PG v2f (G70 std):=okF (a:=an70) (l:=la70) (gC ok71 (gN)) (by kernel_rfl) fun _ _=>by kernel_rfl
def v2g:Ctr:=
 ⟨69,[.sl 0 2, .clo 70 [] []],[.row [ci,ci]],[(.ret,⟨[(0, .agg [.int .i64, .int .i64])],[.row [ci,ci]],1⟩)]⟩
def la69:List LA:=
 [⟨69,[false,true,false,true,true,true],1,⟨⟨[(0, .sl 0 2),(1, .clo 70 [] []),(4, .bptr 1 0),(5, .bptr 2 0),(6, .int .i64)],[.row [ci,ci], .box [.int .i64, .int .i64], .box [.int .i64, .int .i64]],33⟩,[((AX.exit 0),⟨[(4, .bptr 1 0),(5, .bptr 2 0)],[.row [ci,ci], .box [.int .i64, .int .i64], .box [.int .i64, .int .i64]],33⟩)]⟩⟩]
def ja69:List JA:=
 [⟨69,[true,false,false,true,false,false,true,false,true,true,true],1,[(AX.normal,⟨[(0, .sl 0 2),(1, .clo 70 [] []),(4, .bptr 1 0),(5, .bptr 2 0),(6, .int .i64)],[.row [ci,ci], .box [.int .i64, .int .i64], .box [.int .i64, .int .i64]],33⟩)]⟩]
def v64:List CF:=
 [⟨v2f,G70⟩]
def an69:Anns:=
 ⟨v64,ja69,[]⟩
def v8h (p:Prim):(LD×T39)→Option ((LD×T39)⊕(LD×T9)):=
 fun a=>opt.run _ (
 opt.ask _ (p.cmp .lss a.2.2.2.2.2.2.2.1 (p.ofNat a.2.2.2.2.2.2.1)) (
 opt.need _ (bif (p.cmp .geq a.2.2.2.2.2.2.2.1 (0:Int)) then (p.cmp .lss a.2.2.2.2.2.2.2.1 (p.ofNat a.2.2.2.2.2.2.1)) else Bool.false)<|
 opt.need _ (p.rowOk a.1 (p.add a.2.2.2.2.2.1 (p.nat a.2.2.2.2.2.2.2.1)) [ci,ci])<|
 opt.bnd T0 _ (G70 p ((p.rdI a.1 (p.add a.2.2.2.2.2.1 (p.nat a.2.2.2.2.2.2.2.1)) 0),((p.rdI a.1 (p.add a.2.2.2.2.2.1 (p.nat a.2.2.2.2.2.2.2.1)) 1),(a.2.2.2.1,(a.2.2.2.2.1,()))))) fun b=>
 opt.bnd ((LD×T39)) _ (
 opt.run ((LD×T39)) (
 opt.ask _ (p.cmp .lss b.1 (0:Int)) (
 opt.need _ (bif (p.cmp .geq a.2.2.2.2.2.2.2.1 (0:Int)) then (p.cmp .lss a.2.2.2.2.2.2.2.1 (p.ofNat a.2.2.2.2.2.2.1)) else Bool.false)<|
 opt.need _ (p.rowOk a.1 (p.add a.2.2.2.2.2.1 (p.nat a.2.2.2.2.2.2.2.1)) [ci,ci])<|
 opt.ret _ (a.1,(a.2.1,(a.2.2.1,((p.rdI a.1 (p.add a.2.2.2.2.2.1 (p.nat a.2.2.2.2.2.2.2.1)) 0),((p.rdI a.1 (p.add a.2.2.2.2.2.1 (p.nat a.2.2.2.2.2.2.2.1)) 1),(a.2.2.2.2.2.1,(a.2.2.2.2.2.2.1,(a.2.2.2.2.2.2.2.1,()))))))))) (
 opt.ret _ (a.1,(a.2.1,(a.2.2.1,(a.2.2.2.1,(a.2.2.2.2.1,(a.2.2.2.2.2.1,(a.2.2.2.2.2.2.1,(a.2.2.2.2.2.2.2.1,()))))))))))) fun c=>
 opt.ret _ (Sum.inl (c.1,(c.2.1,(c.2.2.1,(c.2.2.2.1,(c.2.2.2.2.1,(c.2.2.2.2.2.1,(c.2.2.2.2.2.2.1,((p.ar .add .i64 c.2.2.2.2.2.2.2.1 (1:Int)),())))))))))) (
 opt.ret _ (Sum.inr (a.1,(a.2.1,(a.2.2.1,(a.2.2.2.1,(a.2.2.2.2.1,()))))))))
def g69 (it:It):(p:Prim)→(LD×T17)→Option ((LD×T3)):=
 fun p x=>
 opt.ask _ (p.cmp .lss (p.ofNat x.2.2.1) (1:Int)) (
 opt.no _ 41) (
 opt.need _ (bif (p.cmp .geq (0:Int) (0:Int)) then (p.cmp .lss (0:Int) (p.ofNat x.2.2.1)) else Bool.false)<|
 opt.need _ (p.rowOk x.1 (p.add x.2.1 (p.nat (0:Int))) [ci,ci])<|
 opt.bnd ((LD×T9)) _ (
 it _ _ (v8h p) (x.1,((0:Int),((0:Int),((p.rdI x.1 (p.add x.2.1 (p.nat (0:Int))) 0),((p.rdI x.1 (p.add x.2.1 (p.nat (0:Int))) 1),(x.2.1,(x.2.2.1,((1:Int),()))))))))) fun a=>
 opt.ret _ (a.1,(a.2.2.2.1,(a.2.2.2.2.1,()))))
def G69:=g69 it0
theorem ok69:CtrOk PG v2g (G69 std):=okF (a:=an69) (l:=la69) (gC ok70 (gN)) (by kernel_rfl) fun _ _=>by kernel_rfl
def v2v:Ctr:=
 ⟨25,[.agg [.list 2, .list 1], .agg [.list 2, .list 1]],[],[(.ret,⟨[(0, .tuple [.agg [.int .i64, .int .i64], .int .i64])],[],1⟩)]⟩
def la25:List LA:=
 [⟨25,[false,true,false,true,true,true,true,true],0,⟨⟨[(4, .bptr 0 0),(11, .bptr 1 0),(67, .agg [.list 2, .list 2, .list 2, .list 2]),(68, .int .i64)],[.box [.int .i64, .int .i64], .box [.sl 2 2], .row [ci,ci]],115⟩,[((AX.exit 0),⟨[(4, .bptr 0 0),(11, .bptr 1 0)],[.box [.int .i64, .int .i64], .box [.sl 2 2], .row [ci,ci]],115⟩)]⟩⟩,
 ⟨25,[false,true,true,false,false,true,true,false,false,true,false,true,true,true,true,true],0,⟨⟨[(4, .bptr 0 0),(11, .bptr 1 0),(13, .bptr 2 0),(67, .agg [.list 2, .list 2, .list 2, .list 2]),(68, .int .i64),(72, .list 2),(73, .int .i64),(74, .int .i64)],[.box [.int .i64, .int .i64], .box [.sl 3 2], .box [.list 2, .list 2], .row [ci,ci]],115⟩,[((AX.exit 2),⟨[(4, .bptr 0 0),(11, .bptr 1 0),(67, .agg [.list 2, .list 2, .list 2, .list 2]),(68, .int .i64)],[.box [.int .i64, .int .i64], .box [.sl 2 2], .row [ci,ci]],115⟩)]⟩⟩,
 ⟨25,[false,true,false,true,false,false,true,true,false,false,true,true,false,false,true,true,false,false,true,false,true,true,true,true,true],0,⟨⟨[(4, .bptr 0 0),(11, .bptr 1 0),(13, .bptr 2 0),(15, .bptr 3 0),(67, .agg [.list 2, .list 2, .list 2, .list 2]),(68, .int .i64),(72, .list 2),(73, .int .i64),(74, .int .i64),(79, .list 2),(80, .int .i64),(81, .int .i64)],[.box [.int .i64, .int .i64], .box [.sl 4 2], .box [.list 2, .list 2], .box [.int .i64, .int .i64], .row [ci,ci]],115⟩,[((AX.exit 4),⟨[(4, .bptr 0 0),(11, .bptr 1 0),(13, .bptr 2 0),(15, .bptr 3 0),(67, .agg [.list 2, .list 2, .list 2, .list 2]),(68, .int .i64),(72, .list 2),(73, .int .i64),(74, .int .i64)],[.box [.int .i64, .int .i64], .box [.sl 4 2], .box [.list 2, .list 2], .box [.int .i64, .int .i64], .row [ci,ci]],115⟩)]⟩⟩,
 ⟨94,[false,true],7,⟨⟨[(0, .yld 6),(1, .bptr 5 0),(6, .list 2),(7, .int .i64),(8, .int .i64)],[.box [.int .i64, .int .i64], .box [.sl 7 2], .box [.list 2, .list 2], .box [.int .i64, .int .i64], .dead, .box [.list 2], .loop Go.LoopState.ready Option.none 25 [Bool.false,Bool.true,Bool.true,Bool.true,Bool.false,Bool.false,Bool.true,Bool.true,Bool.false,Bool.false,Bool.true,Bool.true,Bool.false,Bool.false,Bool.true,Bool.true,Bool.false,Bool.false,Bool.true,Bool.false,Bool.true,Bool.true,Bool.true,Bool.true,Bool.true] 115 [(98, .clo 94 [] [.bptr 5 0]),(15, .bptr 3 0),(73, .int .i64),(72, .list 2),(13, .bptr 2 0),(11, .bptr 1 0),(67, .agg [.list 2, .list 2, .list 2, .list 2]),(4, .bptr 0 0),(68, .int .i64),(74, .int .i64)], .row [ci,ci]],33⟩,[(AX.ret,⟨[],[.box [.int .i64, .int .i64], .box [.sl 7 2], .box [.list 2, .list 2], .box [.int .i64, .int .i64], .dead, .box [.list 2], .loop Go.LoopState.ready Option.none 25 [Bool.false,Bool.true,Bool.true,Bool.true,Bool.false,Bool.false,Bool.true,Bool.true,Bool.false,Bool.false,Bool.true,Bool.true,Bool.false,Bool.false,Bool.true,Bool.true,Bool.false,Bool.false,Bool.true,Bool.false,Bool.true,Bool.true,Bool.true,Bool.true,Bool.true] 115 [(98, .clo 94 [] [.bptr 5 0]),(15, .bptr 3 0),(73, .int .i64),(72, .list 2),(13, .bptr 2 0),(11, .bptr 1 0),(67, .agg [.list 2, .list 2, .list 2, .list 2]),(4, .bptr 0 0),(68, .int .i64),(74, .int .i64)], .row [ci,ci]],33⟩),((AX.exit 0),⟨[],[.box [.int .i64, .int .i64], .box [.sl 7 2], .box [.list 2, .list 2], .box [.int .i64, .int .i64], .dead, .box [.list 2], .loop Go.LoopState.ready Option.none 25 [Bool.false,Bool.true,Bool.true,Bool.true,Bool.false,Bool.false,Bool.true,Bool.true,Bool.false,Bool.false,Bool.true,Bool.true,Bool.false,Bool.false,Bool.true,Bool.true,Bool.false,Bool.false,Bool.true,Bool.false,Bool.true,Bool.true,Bool.true,Bool.true,Bool.true] 115 [(98, .clo 94 [] [.bptr 5 0]),(15, .bptr 3 0),(73, .int .i64),(72, .list 2),(13, .bptr 2 0),(11, .bptr 1 0),(67, .agg [.list 2, .list 2, .list 2, .list 2]),(4, .bptr 0 0),(68, .int .i64),(74, .int .i64)], .row [ci,ci]],33⟩)]⟩⟩]
def ja25:List JA:=
 [⟨25,[true,true,false,true,false,true,true,true,false,false,true,true,false,false,true,true,false,false,true,true,false,false,true,false,true,true,true,true,true],20,[(AX.normal,⟨[(4, .bptr 0 0),(11, .bptr 1 0),(13, .bptr 2 0),(15, .bptr 3 0),(67, .agg [.list 2, .list 2, .list 2, .list 2]),(68, .int .i64),(72, .list 2),(73, .int .i64),(74, .int .i64)],[.box [.int .i64, .int .i64], .box [.sl 20 2], .box [.list 2, .list 2], .box [.int .i64, .int .i64], .dead, .box [.list 2], .dead, .dead, .box [.int .i64, .int .i64], .dead, .dead, .dead, .dead, .dead, .dead, .dead, .dead, .dead, .dead, .box [.int .i64, .int .i64], .row [ci,ci]],115⟩)]⟩,
 ⟨25,[true,true,true,false,false,true,true,false,false,true,true,false,false,true,true,false,false,true,false,true,true,true,true,true],0,[(AX.normal,⟨[(4, .bptr 0 0),(11, .bptr 1 0),(13, .bptr 2 0),(67, .agg [.list 2, .list 2, .list 2, .list 2]),(68, .int .i64),(72, .list 2),(73, .int .i64),(74, .int .i64)],[.box [.int .i64, .int .i64], .box [.sl 3 2], .box [.list 2, .list 2], .row [ci,ci]],115⟩)]⟩,
 ⟨25,[false,false,false,true,true,false,false,true,false,true,true,true,true,true],0,[(AX.normal,⟨[(4, .bptr 0 0),(11, .bptr 1 0),(13, .bptr 2 0),(67, .agg [.list 2, .list 2, .list 2, .list 2]),(68, .int .i64)],[.box [.int .i64, .int .i64], .box [.sl 3 2], .box [.list 2, .list 2], .row [ci,ci]],115⟩)]⟩]
def v7u:List CF:=
 [⟨v2g,G69⟩,⟨v2h,G68⟩,⟨w66,G65⟩,⟨w2q,G63⟩,⟨x9j,G62⟩]
def an25:Anns:=
 ⟨v7u,ja25,[]⟩
def w7w (it:It) (p:Prim):(LD×T74)→Option ((LD×T74)⊕((LD×T24)⊕(LD×T24))):=
 fun a=>opt.run _ (
 opt.ask _ (p.cmp .lss a.2.2.2.2.2.2.2.2.2.2.2.2.2.2.2.2.2.2.2.2.1 a.2.2.2.2.2.2.2.2.2.2.2.2.2.2.2.2.2.2.2.1) (
 opt.need _ (p.rowOk a.2.2.2.2.2.2.2.2.2.2.2.2.2.2.2.2.2.2.1 (p.nat a.2.2.2.2.2.2.2.2.2.2.2.2.2.2.2.2.2.2.2.2.1) [ci,ci])<|
 opt.need _ (p.cmp .geq a.2.2.2.2.2.2.2.2.2.2.2.2.2.2.2.2.2.2.2.2.1 (0:Int))<|
 opt.need _ (p.cmp .neq (p.ofNat (p.len a.2.2.2.2.2.2.2.2.2.1)) (0:Int))<|
 opt.need _ (p.rowOk a.2.2.2.2.2.2.2.2.2.1 (p.nat (p.ar .rem .i64 (p.ar .add .i64 a.2.2.2.2.2.2.2.2.2.2.2.2.2.2.2.2.2.2.2.2.1 (1:Int)) (p.ofNat (p.len a.2.2.2.2.2.2.2.2.2.1)))) [ci,ci])<|
 opt.need _ (p.cmp .geq (p.ar .rem .i64 (p.ar .add .i64 a.2.2.2.2.2.2.2.2.2.2.2.2.2.2.2.2.2.2.2.2.1 (1:Int)) (p.ofNat (p.len a.2.2.2.2.2.2.2.2.2.1))) (0:Int))<|
 opt.ask _ (bif (p.cmp .eql (p.ar .sub .i64 (p.rdI a.2.2.2.2.2.2.2.2.2.1 (p.nat (p.ar .rem .i64 (p.ar .add .i64 a.2.2.2.2.2.2.2.2.2.2.2.2.2.2.2.2.2.2.2.2.1 (1:Int)) (p.ofNat (p.len a.2.2.2.2.2.2.2.2.2.1)))) 0) (p.rdI a.2.2.2.2.2.2.2.2.2.2.2.2.2.2.2.2.2.2.1 (p.nat a.2.2.2.2.2.2.2.2.2.2.2.2.2.2.2.2.2.2.2.2.1) 0)) (0:Int)) then (bif (p.cmp .eql (p.ar .sub .i64 (p.rdI a.2.2.2.2.2.2.2.2.2.1 (p.nat (p.ar .rem .i64 (p.ar .add .i64 a.2.2.2.2.2.2.2.2.2.2.2.2.2.2.2.2.2.2.2.2.1 (1:Int)) (p.ofNat (p.len a.2.2.2.2.2.2.2.2.2.1)))) 1) (p.rdI a.2.2.2.2.2.2.2.2.2.2.2.2.2.2.2.2.2.2.1 (p.nat a.2.2.2.2.2.2.2.2.2.2.2.2.2.2.2.2.2.2.2.2.1) 1)) (0:Int)) then Bool.true else Bool.false) else Bool.false) (
 opt.ret _ (Sum.inr (Sum.inl (a.1,(a.2.1,(a.2.2.1,(a.2.2.2.1,(a.2.2.2.2.1,(a.2.2.2.2.2.1,(a.2.2.2.2.2.2.1,(a.2.2.2.2.2.2.2.1,(a.2.2.2.2.2.2.2.2.1,(a.2.2.2.2.2.2.2.2.2.1,(a.2.2.2.2.2.2.2.2.2.2.1,(a.2.2.2.2.2.2.2.2.2.2.2.1,(a.2.2.2.2.2.2.2.2.2.2.2.2.1,(a.2.2.2.2.2.2.2.2.2.2.2.2.2.1,(a.2.2.2.2.2.2.2.2.2.2.2.2.2.2.1,(a.2.2.2.2.2.2.2.2.2.2.2.2.2.2.2.1,(a.2.2.2.2.2.2.2.2.2.2.2.2.2.2.2.2.1,(a.2.2.2.2.2.2.2.2.2.2.2.2.2.2.2.2.2.1,()))))))))))))))))))))) (
 opt.bnd T18 _ (g68 it p (a.2.2.2.2.2.2.2.1,(a.2.2.2.2.2.2.2.2.1,((p.rdI a.2.2.2.2.2.2.2.2.2.2.2.2.2.2.2.2.2.2.1 (p.nat a.2.2.2.2.2.2.2.2.2.2.2.2.2.2.2.2.2.2.2.2.1) 0),((p.rdI a.2.2.2.2.2.2.2.2.2.2.2.2.2.2.2.2.2.2.1 (p.nat a.2.2.2.2.2.2.2.2.2.2.2.2.2.2.2.2.2.2.2.2.1) 1),((p.ar .sub .i64 (p.rdI a.2.2.2.2.2.2.2.2.2.1 (p.nat (p.ar .rem .i64 (p.ar .add .i64 a.2.2.2.2.2.2.2.2.2.2.2.2.2.2.2.2.2.2.2.2.1 (1:Int)) (p.ofNat (p.len a.2.2.2.2.2.2.2.2.2.1)))) 0) (p.rdI a.2.2.2.2.2.2.2.2.2.2.2.2.2.2.2.2.2.2.1 (p.nat a.2.2.2.2.2.2.2.2.2.2.2.2.2.2.2.2.2.2.2.2.1) 0)),((p.ar .sub .i64 (p.rdI a.2.2.2.2.2.2.2.2.2.1 (p.nat (p.ar .rem .i64 (p.ar .add .i64 a.2.2.2.2.2.2.2.2.2.2.2.2.2.2.2.2.2.2.2.2.1 (1:Int)) (p.ofNat (p.len a.2.2.2.2.2.2.2.2.2.1)))) 1) (p.rdI a.2.2.2.2.2.2.2.2.2.2.2.2.2.2.2.2.2.2.1 (p.nat a.2.2.2.2.2.2.2.2.2.2.2.2.2.2.2.2.2.2.2.2.1) 1)),()))))))) fun b=>
 opt.bnd ((LD×T75)) _ (
 opt.run ((LD×T75)) (
 opt.ask _ b.2.2.1 (
 opt.need _ (p.and (p.leN (p.add 0 1) (p.len [[(D.int .i64 b.1),(D.int .i64 b.2.1)]])) (p.and (p.leN (p.add a.2.2.2.1 a.2.2.2.2.1) (p.len a.1)) (p.and (p.leN 1 1) (p.leN (p.add a.2.2.2.2.1 1) 1000000))))<|
 opt.ret _ ((p.app (p.cut a.1 a.2.2.2.1 a.2.2.2.2.1) (p.cut [[(D.int .i64 b.1),(D.int .i64 b.2.1)]] 0 1)),(a.2.1,(a.2.2.1,(0,((p.add a.2.2.2.2.1 1),(a.2.2.2.2.2.1,(a.2.2.2.2.2.2.1,(a.2.2.2.2.2.2.2.1,(a.2.2.2.2.2.2.2.2.1,(a.2.2.2.2.2.2.2.2.2.1,((p.rdI a.2.2.2.2.2.2.2.2.2.2.2.2.2.2.2.2.2.2.1 (p.nat a.2.2.2.2.2.2.2.2.2.2.2.2.2.2.2.2.2.2.2.2.1) 0),((p.rdI a.2.2.2.2.2.2.2.2.2.2.2.2.2.2.2.2.2.2.1 (p.nat a.2.2.2.2.2.2.2.2.2.2.2.2.2.2.2.2.2.2.2.2.1) 1),((p.ar .sub .i64 (p.rdI a.2.2.2.2.2.2.2.2.2.1 (p.nat (p.ar .rem .i64 (p.ar .add .i64 a.2.2.2.2.2.2.2.2.2.2.2.2.2.2.2.2.2.2.2.2.1 (1:Int)) (p.ofNat (p.len a.2.2.2.2.2.2.2.2.2.1)))) 0) (p.rdI a.2.2.2.2.2.2.2.2.2.2.2.2.2.2.2.2.2.2.1 (p.nat a.2.2.2.2.2.2.2.2.2.2.2.2.2.2.2.2.2.2.2.2.1) 0)),((p.ar .sub .i64 (p.rdI a.2.2.2.2.2.2.2.2.2.1 (p.nat (p.ar .rem .i64 (p.ar .add .i64 a.2.2.2.2.2.2.2.2.2.2.2.2.2.2.2.2.2.2.2.2.1 (1:Int)) (p.ofNat (p.len a.2.2.2.2.2.2.2.2.2.1)))) 1) (p.rdI a.2.2.2.2.2.2.2.2.2.2.2.2.2.2.2.2.2.2.1 (p.nat a.2.2.2.2.2.2.2.2.2.2.2.2.2.2.2.2.2.2.2.2.1) 1)),(a.2.2.2.2.2.2.2.2.2.2.2.2.1,(a.2.2.2.2.2.2.2.2.2.2.2.2.2.1,(a.2.2.2.2.2.2.2.2.2.2.2.2.2.2.1,(a.2.2.2.2.2.2.2.2.2.2.2.2.2.2.2.1,(a.2.2.2.2.2.2.2.2.2.2.2.2.2.2.2.2.1,(a.2.2.2.2.2.2.2.2.2.2.2.1,(a.2.2.2.2.2.2.2.2.2.2.1,(a.2.2.2.2.2.2.2.2.2.2.2.2.2.2.2.2.2.1,()))))))))))))))))))))))) (
 opt.ret _ (a.1,(a.2.1,(a.2.2.1,(a.2.2.2.1,(a.2.2.2.2.1,(a.2.2.2.2.2.1,(a.2.2.2.2.2.2.1,(a.2.2.2.2.2.2.2.1,(a.2.2.2.2.2.2.2.2.1,(a.2.2.2.2.2.2.2.2.2.1,((p.rdI a.2.2.2.2.2.2.2.2.2.2.2.2.2.2.2.2.2.2.1 (p.nat a.2.2.2.2.2.2.2.2.2.2.2.2.2.2.2.2.2.2.2.2.1) 0),((p.rdI a.2.2.2.2.2.2.2.2.2.2.2.2.2.2.2.2.2.2.1 (p.nat a.2.2.2.2.2.2.2.2.2.2.2.2.2.2.2.2.2.2.2.2.1) 1),((p.ar .sub .i64 (p.rdI a.2.2.2.2.2.2.2.2.2.1 (p.nat (p.ar .rem .i64 (p.ar .add .i64 a.2.2.2.2.2.2.2.2.2.2.2.2.2.2.2.2.2.2.2.2.1 (1:Int)) (p.ofNat (p.len a.2.2.2.2.2.2.2.2.2.1)))) 0) (p.rdI a.2.2.2.2.2.2.2.2.2.2.2.2.2.2.2.2.2.2.1 (p.nat a.2.2.2.2.2.2.2.2.2.2.2.2.2.2.2.2.2.2.2.2.1) 0)),((p.ar .sub .i64 (p.rdI a.2.2.2.2.2.2.2.2.2.1 (p.nat (p.ar .rem .i64 (p.ar .add .i64 a.2.2.2.2.2.2.2.2.2.2.2.2.2.2.2.2.2.2.2.2.1 (1:Int)) (p.ofNat (p.len a.2.2.2.2.2.2.2.2.2.1)))) 1) (p.rdI a.2.2.2.2.2.2.2.2.2.2.2.2.2.2.2.2.2.2.1 (p.nat a.2.2.2.2.2.2.2.2.2.2.2.2.2.2.2.2.2.2.2.2.1) 1)),(a.2.2.2.2.2.2.2.2.2.2.2.2.1,(a.2.2.2.2.2.2.2.2.2.2.2.2.2.1,(a.2.2.2.2.2.2.2.2.2.2.2.2.2.2.1,(a.2.2.2.2.2.2.2.2.2.2.2.2.2.2.2.1,(a.2.2.2.2.2.2.2.2.2.2.2.2.2.2.2.2.1,(a.2.2.2.2.2.2.2.2.2.2.2.1,(a.2.2.2.2.2.2.2.2.2.2.1,(a.2.2.2.2.2.2.2.2.2.2.2.2.2.2.2.2.2.1,()))))))))))))))))))))))))) fun c=>
 opt.ret _ (Sum.inl (c.1,(c.2.1,(c.2.2.1,(c.2.2.2.1,(c.2.2.2.2.1,(c.2.2.2.2.2.1,(c.2.2.2.2.2.2.1,(c.2.2.2.2.2.2.2.1,(c.2.2.2.2.2.2.2.2.1,(c.2.2.2.2.2.2.2.2.2.1,(a.2.2.2.2.2.2.2.2.2.2.1,(a.2.2.2.2.2.2.2.2.2.2.2.1,(a.2.2.2.2.2.2.2.2.2.2.2.2.1,(a.2.2.2.2.2.2.2.2.2.2.2.2.2.1,(a.2.2.2.2.2.2.2.2.2.2.2.2.2.2.1,(a.2.2.2.2.2.2.2.2.2.2.2.2.2.2.2.1,(a.2.2.2.2.2.2.2.2.2.2.2.2.2.2.2.2.1,(a.2.2.2.2.2.2.2.2.2.2.2.2.2.2.2.2.2.1,(a.2.2.2.2.2.2.2.2.2.2.2.2.2.2.2.2.2.2.1,(a.2.2.2.2.2.2.2.2.2.2.2.2.2.2.2.2.2.2.2.1,((p.ar .add .i64 a.2.2.2.2.2.2.2.2.2.2.2.2.2.2.2.2.2.2.2.2.1 (1:Int)),())))))))))))))))))))))))) (
 opt.ret _ (Sum.inr (Sum.inr (a.1,(a.2.1,(a.2.2.1,(a.2.2.2.1,(a.2.2.2.2.1,(a.2.2.2.2.2.1,(a.2.2.2.2.2.2.1,(a.2.2.2.2.2.2.2.1,(a.2.2.2.2.2.2.2.2.1,(a.2.2.2.2.2.2.2.2.2.1,(a.2.2.2.2.2.2.2.2.2.2.1,(a.2.2.2.2.2.2.2.2.2.2.2.1,(a.2.2.2.2.2.2.2.2.2.2.2.2.1,(a.2.2.2.2.2.2.2.2.2.2.2.2.2.1,(a.2.2.2.2.2.2.2.2.2.2.2.2.2.2.1,(a.2.2.2.2.2.2.2.2.2.2.2.2.2.2.2.1,(a.2.2.2.2.2.2.2.2.2.2.2.2.2.2.2.2.1,(a.2.2.2.2.2.2.2.2.2.2.2.2.2.2.2.2.2.1,()))))))))))))))))))))))
def w7x (it:It) (p:Prim):(LD×T76)→Option ((LD×T76)⊕(LD×T77)):=
 fun a=>opt.run _ (
 opt.ask _ (p.cmp .lss a.2.2.2.2.2.2.2.2.2.2.2.2.2.2.2.2.2.2.2.1 a.2.2.2.2.2.2.2.2.2.2.2.2.2.2.2.2.2.2.1) (
 opt.need _ (p.rowOk a.2.2.2.2.2.2.2.2.2.2.2.2.2.2.2.2.2.1 (p.nat a.2.2.2.2.2.2.2.2.2.2.2.2.2.2.2.2.2.2.2.1) [ci,ci])<|
 opt.need _ (p.cmp .geq a.2.2.2.2.2.2.2.2.2.2.2.2.2.2.2.2.2.2.2.1 (0:Int))<|
 opt.bnd T4 _ (g65 it p ((p.ar .add .i64 (p.ar .mul .i64 (p.ar .sub .i64 (p.rdI a.2.2.2.2.2.2.2.2.2.2.2.2.2.2.2.2.2.1 (p.nat a.2.2.2.2.2.2.2.2.2.2.2.2.2.2.2.2.2.2.2.1) 0) a.2.2.2.2.2.2.2.1) (p.ar .sub .i64 (p.rdI a.2.2.2.2.2.2.2.2.2.2.2.2.2.2.2.2.2.1 (p.nat a.2.2.2.2.2.2.2.2.2.2.2.2.2.2.2.2.2.2.2.1) 0) a.2.2.2.2.2.2.2.1)) (p.ar .mul .i64 (p.ar .sub .i64 (p.rdI a.2.2.2.2.2.2.2.2.2.2.2.2.2.2.2.2.2.1 (p.nat a.2.2.2.2.2.2.2.2.2.2.2.2.2.2.2.2.2.2.2.1) 1) a.2.2.2.2.2.2.2.2.1) (p.ar .sub .i64 (p.rdI a.2.2.2.2.2.2.2.2.2.2.2.2.2.2.2.2.2.1 (p.nat a.2.2.2.2.2.2.2.2.2.2.2.2.2.2.2.2.2.2.2.1) 1) a.2.2.2.2.2.2.2.2.1))),((1:Int),()))) fun b=>
 opt.need _ (p.and (p.leN (p.add 0 1) (p.len [[(D.int .i64 b.1),(D.int .i64 b.2.1)]])) (p.and (p.leN (p.add a.2.2.2.1 a.2.2.2.2.1) (p.len a.1)) (p.and (p.leN 1 1) (p.leN (p.add a.2.2.2.2.1 1) 1000000))))<|
 opt.ret _ (Sum.inl ((p.app (p.cut a.1 a.2.2.2.1 a.2.2.2.2.1) (p.cut [[(D.int .i64 b.1),(D.int .i64 b.2.1)]] 0 1)),(a.2.1,(a.2.2.1,(0,((p.add a.2.2.2.2.1 1),(a.2.2.2.2.2.1,(a.2.2.2.2.2.2.1,(a.2.2.2.2.2.2.2.1,(a.2.2.2.2.2.2.2.2.1,(a.2.2.2.2.2.2.2.2.2.1,(a.2.2.2.2.2.2.2.2.2.2.1,(a.2.2.2.2.2.2.2.2.2.2.2.1,(a.2.2.2.2.2.2.2.2.2.2.2.2.1,(a.2.2.2.2.2.2.2.2.2.2.2.2.2.1,(a.2.2.2.2.2.2.2.2.2.2.2.2.2.2.1,(a.2.2.2.2.2.2.2.2.2.2.2.2.2.2.2.1,(a.2.2.2.2.2.2.2.2.2.2.2.2.2.2.2.2.1,(a.2.2.2.2.2.2.2.2.2.2.2.2.2.2.2.2.2.1,(a.2.2.2.2.2.2.2.2.2.2.2.2.2.2.2.2.2.2.1,((p.ar .add .i64 a.2.2.2.2.2.2.2.2.2.2.2.2.2.2.2.2.2.2.2.1 (1:Int)),())))))))))))))))))))))) (
 opt.ret _ (Sum.inr (a.1,(a.2.1,(a.2.2.1,(a.2.2.2.1,(a.2.2.2.2.1,(a.2.2.2.2.2.1,(a.2.2.2.2.2.2.1,(a.2.2.2.2.2.2.2.1,(a.2.2.2.2.2.2.2.2.1,(a.2.2.2.2.2.2.2.2.2.1,(a.2.2.2.2.2.2.2.2.2.2.1,(a.2.2.2.2.2.2.2.2.2.2.2.1,(a.2.2.2.2.2.2.2.2.2.2.2.2.1,(a.2.2.2.2.2.2.2.2.2.2.2.2.2.1,(a.2.2.2.2.2.2.2.2.2.2.2.2.2.2.1,(a.2.2.2.2.2.2.2.2.2.2.2.2.2.2.2.1,(a.2.2.2.2.2.2.2.2.2.2.2.2.2.2.2.2.1,()))))))))))))))))))))
def w7y (it:It) (p:Prim):(LD×T40)→Option ((LD×T40)⊕(LD×T41)):=
 fun a=>opt.run _ (
 opt.ask _ (p.cmp .lss a.2.2.2.2.2.2.2.2.2.2.2.2.2.2.1 a.2.2.2.2.2.2.2.2.2.2.2.2.2.1) (
 opt.need _ (p.rowOk a.2.2.2.2.2.2.2.2.2.2.2.2.1 (p.nat a.2.2.2.2.2.2.2.2.2.2.2.2.2.2.1) [ci,ci])<|
 opt.need _ (p.cmp .geq a.2.2.2.2.2.2.2.2.2.2.2.2.2.2.1 (0:Int))<|
 opt.bnd ((LD×T77)) _ (
 it _ _ (w7x it p) (a.1,(a.2.1,(a.2.2.1,(a.2.2.2.1,(a.2.2.2.2.1,(a.2.2.2.2.2.1,(a.2.2.2.2.2.2.1,((p.rdI a.2.2.2.2.2.2.2.2.2.2.2.2.1 (p.nat a.2.2.2.2.2.2.2.2.2.2.2.2.2.2.1) 0),((p.rdI a.2.2.2.2.2.2.2.2.2.2.2.2.1 (p.nat a.2.2.2.2.2.2.2.2.2.2.2.2.2.2.1) 1),(a.2.2.2.2.2.2.2.1,(a.2.2.2.2.2.2.2.2.1,(a.2.2.2.2.2.2.2.2.2.1,(a.2.2.2.2.2.2.2.2.2.2.1,(a.2.2.2.2.2.2.2.2.2.2.2.1,(a.2.2.2.2.2.2.2.2.2.2.2.2.1,(a.2.2.2.2.2.2.2.2.2.2.2.2.2.1,(a.2.2.2.2.2.2.2.2.2.2.2.2.2.2.1,(a.2.2.2.2.2.2.1,((p.ofNat (p.len a.2.2.2.2.2.2.1)),((0:Int),()))))))))))))))))))))) fun b=>
 opt.bnd ((LD×T40)) _ (
 opt.run ((LD×T40)) (
 opt.alt ((LD×T24)) ((LD×T24)) _ (
 it _ _ (w7w it p) (b.1,(b.2.1,(b.2.2.1,(b.2.2.2.1,(b.2.2.2.2.1,(b.2.2.2.2.2.1,(b.2.2.2.2.2.2.1,(b.2.2.2.2.2.2.2.1,(b.2.2.2.2.2.2.2.2.1,(b.2.2.2.2.2.2.1,(b.2.2.2.2.2.2.2.2.2.2.2.2.2.2.2.1,(b.2.2.2.2.2.2.2.2.2.2.2.2.2.2.1,(b.2.2.2.2.2.2.2.2.2.1,(b.2.2.2.2.2.2.2.2.2.2.1,(b.2.2.2.2.2.2.2.2.2.2.2.1,(b.2.2.2.2.2.2.2.2.2.2.2.2.1,(b.2.2.2.2.2.2.2.2.2.2.2.2.2.1,(b.2.2.2.2.2.2.2.2.2.2.2.2.2.2.2.2.1,(b.2.2.2.2.2.2.1,((p.ofNat (p.len b.2.2.2.2.2.2.1)),((0:Int),())))))))))))))))))))))) (fun c=>
 opt.ret _ (c.1,(c.2.1,(c.2.2.1,(c.2.2.2.1,(c.2.2.2.2.1,(c.2.2.2.2.2.1,(c.2.2.2.2.2.2.1,(b.2.2.2.2.2.2.2.2.2.1,(b.2.2.2.2.2.2.2.2.2.2.1,(b.2.2.2.2.2.2.2.2.2.2.2.1,(b.2.2.2.2.2.2.2.2.2.2.2.2.1,(b.2.2.2.2.2.2.2.2.2.2.2.2.2.1,(b.2.2.2.2.2.2.2.2.2.2.2.2.2.2.1,(b.2.2.2.2.2.2.2.2.2.2.2.2.2.2.2.1,(b.2.2.2.2.2.2.2.2.2.2.2.2.2.2.2.2.1,())))))))))))))))) (fun d=>
 opt.bnd ((LD×T24)) _ (some d) fun e=>
 opt.ret _ (e.1,(e.2.1,(e.2.2.1,(e.2.2.2.1,(e.2.2.2.2.1,(e.2.2.2.2.2.1,(e.2.2.2.2.2.2.1,(b.2.2.2.2.2.2.2.2.2.1,(b.2.2.2.2.2.2.2.2.2.2.1,(b.2.2.2.2.2.2.2.2.2.2.2.1,(b.2.2.2.2.2.2.2.2.2.2.2.2.1,(b.2.2.2.2.2.2.2.2.2.2.2.2.2.1,(b.2.2.2.2.2.2.2.2.2.2.2.2.2.2.1,(b.2.2.2.2.2.2.2.2.2.2.2.2.2.2.2.1,(b.2.2.2.2.2.2.2.2.2.2.2.2.2.2.2.2.1,())))))))))))))))))) fun f=>
 opt.ret _ (Sum.inl (f.1,(f.2.1,(f.2.2.1,(f.2.2.2.1,(f.2.2.2.2.1,(f.2.2.2.2.2.1,(f.2.2.2.2.2.2.1,(f.2.2.2.2.2.2.2.1,(f.2.2.2.2.2.2.2.2.1,(f.2.2.2.2.2.2.2.2.2.1,(f.2.2.2.2.2.2.2.2.2.2.1,(f.2.2.2.2.2.2.2.2.2.2.2.1,(f.2.2.2.2.2.2.2.2.2.2.2.2.1,(f.2.2.2.2.2.2.2.2.2.2.2.2.2.1,((p.ar .add .i64 f.2.2.2.2.2.2.2.2.2.2.2.2.2.2.1 (1:Int)),()))))))))))))))))) (
 opt.ret _ (Sum.inr (a.1,(a.2.1,(a.2.2.1,(a.2.2.2.1,(a.2.2.2.2.1,(a.2.2.2.2.2.2.2.1,(a.2.2.2.2.2.2.2.2.1,(a.2.2.2.2.2.2.2.2.2.1,(a.2.2.2.2.2.2.2.2.2.2.1,(a.2.2.2.2.2.2.2.2.2.2.2.1,())))))))))))))
def w7z (it:It) (p:Prim):(LD×T41)→Option ((LD×T41)⊕(LD×T78)):=
 fun a=>opt.run _ (
 opt.ask _ (p.cmp .lss a.2.2.2.2.2.2.2.2.2.1 (2:Int)) (
 opt.bnd ((LD×T79)) _ (
 opt.run ((LD×T79)) (
 opt.ask _ (p.cmp .eql a.2.2.2.2.2.2.2.2.2.1 (0:Int)) (
 opt.need _ (bif (p.cmp .geq (0:Int) (0:Int)) then (p.cmp .lss (0:Int) (p.ofNat 2)) else Bool.false)<|
 opt.ret _ (a.1,(a.2.1,(a.2.2.1,(a.2.2.2.1,(a.2.2.2.2.1,(a.2.2.2.2.2.1,(a.2.2.2.2.2.2.1,(a.2.2.2.2.2.1,(a.2.2.2.2.2.2.1,(a.2.2.2.2.2.2.2.1,(a.2.2.2.2.2.2.2.2.1,((0:Int),()))))))))))))) (
 opt.need _ (p.cmp .eql a.2.2.2.2.2.2.2.2.2.1 (1:Int))<|
 opt.need _ (bif (p.cmp .geq (1:Int) (0:Int)) then (p.cmp .lss (1:Int) (p.ofNat 2)) else Bool.false)<|
 opt.ret _ (a.1,(a.2.1,(a.2.2.1,(a.2.2.2.1,(a.2.2.2.2.1,(a.2.2.2.2.2.2.2.1,(a.2.2.2.2.2.2.2.2.1,(a.2.2.2.2.2.1,(a.2.2.2.2.2.2.1,(a.2.2.2.2.2.2.2.1,(a.2.2.2.2.2.2.2.2.1,((1:Int),()))))))))))))))) fun b=>
 opt.bnd ((LD×T41)) _ (
 it _ _ (w7y it p) (b.1,(b.2.1,(b.2.2.1,(b.2.2.2.1,(b.2.2.2.2.1,(b.2.2.2.2.2.1,(b.2.2.2.2.2.2.1,(b.2.2.2.2.2.2.2.1,(b.2.2.2.2.2.2.2.2.1,(b.2.2.2.2.2.2.2.2.2.1,(b.2.2.2.2.2.2.2.2.2.2.1,(b.2.2.2.2.2.2.2.2.2.2.2.1,(b.2.2.2.2.2.1,((p.ofNat (p.len b.2.2.2.2.2.1)),((0:Int),())))))))))))))))) fun c=>
 opt.ret _ (Sum.inl (c.1,(c.2.1,(c.2.2.1,(c.2.2.2.1,(c.2.2.2.2.1,(c.2.2.2.2.2.1,(c.2.2.2.2.2.2.1,(c.2.2.2.2.2.2.2.1,(c.2.2.2.2.2.2.2.2.1,((p.ar .add .i64 c.2.2.2.2.2.2.2.2.2.1 (1:Int)),())))))))))))) (
 opt.ret _ (Sum.inr (a.1,(a.2.1,(a.2.2.1,(a.2.2.2.1,(a.2.2.2.2.1,()))))))))
def g25 (it:It):(p:Prim)→(LD×(LD×(LD×(LD×Unit))))→Option T7:=
 fun p x=>
 opt.alt T0 (((LD×(LD×(LD×T1)))⊕((LD×(LD×(LD×T1)))⊕(LD×(LD×(LD×(LD×(LD×(LD×T1))))))))) _ (g62 it p (x.1,(x.2.1,(x.2.2.1,(x.2.2.2.1,()))))) (fun a=>
 opt.ask _ (p.cmp .neq a.1 (0:Int)) (
 opt.ret _ ((0:Int),((0:Int),(a.1,())))) (
 opt.no _ 41)) (fun b=>
 opt.alt ((LD×(LD×(LD×T1)))) (((LD×(LD×(LD×T1)))⊕(LD×(LD×(LD×(LD×(LD×(LD×T1)))))))) _ (some b) (fun c=>
 opt.ask _ (p.cmp .neq c.2.2.2.1 (0:Int)) (
 opt.ret _ ((0:Int),((0:Int),(c.2.2.2.1,())))) (
 opt.no _ 41)) (fun d=>
 opt.alt ((LD×(LD×(LD×T1)))) ((LD×(LD×(LD×(LD×(LD×(LD×T1))))))) _ (some d) (fun e=>
 opt.ask _ (p.cmp .neq e.2.2.2.1 (0:Int)) (
 opt.ret _ ((0:Int),((0:Int),(e.2.2.2.1,())))) (
 opt.no _ 41)) (fun f=>
 opt.bnd ((LD×(LD×(LD×(LD×(LD×(LD×T1))))))) _ (some f) fun g=>
 opt.ask _ (p.cmp .neq g.2.2.2.2.2.2.1 (0:Int)) (
 opt.ret _ ((0:Int),((0:Int),(g.2.2.2.2.2.2.1,())))) (
 opt.bnd T20 _ (g63 it p (g.2.2.1,(g.2.2.2.2.2.1,()))) fun h=>
 opt.ask _ (bif h.2.2.2.1 then Bool.false else Bool.true) (
 opt.ret _ ((0:Int),((1:Int),((0:Int),())))) (
 opt.need _ (p.leN (p.add 0 0) (p.len []))<|
 opt.bnd ((LD×T78)) _ (
 it _ _ (w7z it p) ([],((0:Int),((0:Int),(0,(0,(g.2.2.1,(g.2.2.2.2.2.1,(g.2.2.2.2.2.1,(g.2.2.1,((0:Int),()))))))))))) fun i=>
 opt.bnd ((LD×T3)) _ (g69 it p (i.1,(i.2.2.2.1,(i.2.2.2.2.1,())))) fun j=>
 opt.ret _ (j.2.1,(j.2.2.1,((0:Int),()))))))))
def G25:=g25 it0
theorem ok25:CtrOk PG v2v (G25 std):=okF (a:=an25) (l:=la25) (gC ok69 (gC ok68 (gC v9a (gC v5b (gC v4k (gN)))))) (by kernel_rfl) fun _ _=>by kernel_rfl
end Go.Am
end
noncomputable section
namespace Go.Am
def v2u:Ctr:=
 ⟨27,[.list 2],[],[(.ret,⟨[(0, .tuple [.int .i64, .int .i64, .int .i64])],[],1⟩)]⟩
def la27:List LA:=
 [⟨27,[false,true,false,true,true,true],0,⟨⟨[(5, .vec 0 1),(22, .list 2),(23, .int .i64),(24, .int .i64)],[.row [(CK.ref [(CR.list 2),(CR.list 1),(CR.list 2)])]],103⟩,[(AX.ret,⟨[(2, .int .i64),(3, .int .i64),(4, .int .i64)],[],103⟩),((AX.exit 0),⟨[(5, .vec 0 1)],[.row [(CK.ref [(CR.list 2),(CR.list 1),(CR.list 2)])]],103⟩)]⟩⟩,
 ⟨27,[false,true,false,true,true,true,true,true],0,⟨⟨[(5, .vec 0 1),(10, .map 1),(42, .vec 0 1),(43, .int .i64),(44, .int .i64)],[.row [(CK.ref [(CR.list 2),(CR.list 1),(CR.list 2)])], .map],103⟩,[((AX.exit 2),⟨[(5, .vec 0 1),(10, .map 1)],[.row [(CK.ref [(CR.list 2),(CR.list 1),(CR.list 2)])], .map],103⟩)]⟩⟩,
 ⟨27,[false,true,true,false,false,true,true,false,false,true,false,true,true,true,true,true],0,⟨⟨[(5, .vec 0 1),(10, .map 1),(11, .int .i64),(12, .ref [.list 2, .list 1, .list 2]),(42, .vec 0 1),(43, .int .i64),(44, .int .i64),(52, .slc 0 1),(53, .int .i64),(54, .int .i64)],[.row [(CK.ref [(CR.list 2),(CR.list 1),(CR.list 2)])], .map],103⟩,[((AX.exit 4),⟨[(5, .vec 0 1),(10, .map 1),(42, .vec 0 1),(43, .int .i64),(44, .int .i64)],[.row [(CK.ref [(CR.list 2),(CR.list 1),(CR.list 2)])], .map],103⟩)]⟩⟩,
 ⟨27,[false,true,false,true,true,true,true,true,true],0,⟨⟨[(5, .vec 0 1),(10, .map 1),(84, .int .i64),(85, .int .i64)],[.row [(CK.ref [(CR.list 2),(CR.list 1),(CR.list 2)])], .map],103⟩,[(AX.ret,⟨[(2, .int .i64),(3, .int .i64),(4, .int .i64)],[],103⟩),((AX.exit 6),⟨[],[],103⟩)]⟩⟩,
 ⟨27,[false,true,true,false,false,true,true,false,false,true,false,true,true,true,true,true,true],0,⟨⟨[(5, .vec 0 1),(10, .map 1),(17, .int .i64),(84, .int .i64),(85, .int .i64),(89, .int .i64),(90, .int .i64)],[.row [(CK.ref [(CR.list 2),(CR.list 1),(CR.list 2)])], .map],103⟩,[(AX.ret,⟨[(2, .int .i64),(3, .int .i64),(4, .int .i64)],[],103⟩),((AX.exit 8),⟨[(5, .vec 0 1),(10, .map 1),(84, .int .i64),(85, .int .i64)],[.row [(CK.ref [(CR.list 2),(CR.list 1),(CR.list 2)])], .map],103⟩)]⟩⟩]
def ja27:List JA:=
 [⟨27,[true,true,true,false,false,true,true,false,false,true,true,false,false,true,true,false,false,true,false,true,true,true,true,true],0,[(AX.normal,⟨[(5, .vec 0 1),(10, .map 1),(11, .int .i64),(12, .ref [.list 2, .list 1, .list 2]),(42, .vec 0 1),(43, .int .i64),(44, .int .i64),(52, .slc 0 1),(53, .int .i64),(54, .int .i64)],[.row [(CK.ref [(CR.list 2),(CR.list 1),(CR.list 2)])], .map],103⟩)]⟩,
 ⟨27,[false,true,true,false,false,true,true,false,false,true,true,false,false,true,false,true,true,true,true,true,true],0,[(AX.ret,⟨[(2, .int .i64),(3, .int .i64),(4, .int .i64)],[],103⟩),(AX.normal,⟨[(5, .vec 0 1),(10, .map 1),(17, .int .i64),(84, .int .i64),(85, .int .i64),(89, .int .i64),(90, .int .i64)],[.row [(CK.ref [(CR.list 2),(CR.list 1),(CR.list 2)])], .map],103⟩)]⟩,
 ⟨27,[false,true,true,false,false,true,false,true,true,true],0,[(AX.ret,⟨[(2, .int .i64),(3, .int .i64),(4, .int .i64)],[],103⟩),(AX.normal,⟨[(5, .vec 0 1),(22, .list 2),(23, .int .i64),(24, .int .i64)],[.row [(CK.ref [(CR.list 2),(CR.list 1),(CR.list 2)])]],103⟩)]⟩]
def v7t:List CF:=
 [⟨w2q,G63⟩,⟨x6f,G48⟩]
def an27:Anns:=
 ⟨v7t,ja27,[⟨27,[true,true,true,false,false,true,true,false,false,true,false,true,true,true],⟨[(5, .vec 0 1),(8, .ref [.list 2, .list 1, .list 2]),(22, .list 2),(23, .int .i64),(24, .int .i64)],[.row [(CK.ref [(CR.list 2),(CR.list 1),(CR.list 2)])]],103⟩⟩]⟩
def v8r (p:Prim):(LD×T42)→Option ((LD×T42)⊕((Int×(Int×(Int×Unit)))⊕(LD×(List ((D×D))×(Int×(Int×Unit)))))):=
 fun a=>opt.run _ (
 opt.ask _ (p.cmp .lss a.2.2.2.2.2.2.1 a.2.2.2.2.2.1) (
 opt.alt T7 ((LD×T42)) _ (
 opt.run (((Int×(Int×(Int×Unit)))⊕(LD×(List ((D×D))×(Int×(Int×(Int×(Int×(Int×Unit))))))))) (
 opt.need _ (p.mOk a.2.1 [SK.i,SK.i] Bool.true (D.agg [(D.int .i64 a.2.2.1),(D.int .i64 a.2.2.2.2.2.2.1)]) Bool.false [ci])<|
 opt.ask _ (p.mhas a.2.1 [SK.i,SK.i] Bool.true (D.agg [(D.int .i64 a.2.2.1),(D.int .i64 a.2.2.2.2.2.2.1)])) (
 opt.ask _ (p.cmp .gtr (p.mI a.2.1 [SK.i,SK.i] Bool.true (D.agg [(D.int .i64 a.2.2.1),(D.int .i64 a.2.2.2.2.2.2.1)]) 0) (0:Int)) (
 opt.ret _ (Sum.inl (a.2.2.1,(a.2.2.2.2.2.2.1,((0:Int),()))))) (
 opt.need _ (p.eqN 0 0)<|
 opt.need _ (p.eqN (p.len a.1) (p.len a.1))<|
 opt.ret _ (Sum.inr (a.1,(a.2.1,(a.2.2.1,(a.2.2.2.1,(a.2.2.2.2.1,(a.2.2.2.2.2.1,(a.2.2.2.2.2.2.1,())))))))))) (
 opt.ask _ (p.cmp .gtr (0:Int) (0:Int)) (
 opt.ret _ (Sum.inl (a.2.2.1,(a.2.2.2.2.2.2.1,((0:Int),()))))) (
 opt.need _ (p.eqN 0 0)<|
 opt.need _ (p.eqN (p.len a.1) (p.len a.1))<|
 opt.ret _ (Sum.inr (a.1,(a.2.1,(a.2.2.1,(a.2.2.2.1,(a.2.2.2.2.1,(a.2.2.2.2.2.1,(a.2.2.2.2.2.2.1,())))))))))))) (fun b=>
 opt.ret _ (Sum.inr (Sum.inl (b.1,(b.2.1,(b.2.2.1,())))))) (fun c=>
 opt.bnd ((LD×T42)) _ (some c) fun d=>
 opt.need _ (p.eqN 0 0)<|
 opt.need _ (p.eqN (p.len d.1) (p.len d.1))<|
 opt.ret _ (Sum.inl (d.1,(d.2.1,(d.2.2.1,(d.2.2.2.1,(d.2.2.2.2.1,(d.2.2.2.2.2.1,((p.ar .add .i64 d.2.2.2.2.2.2.1 (1:Int)),())))))))))) (
 opt.need _ (p.eqN 0 0)<|
 opt.need _ (p.eqN (p.len a.1) (p.len a.1))<|
 opt.ret _ (Sum.inr (Sum.inr (a.1,(a.2.1,(a.2.2.2.1,(a.2.2.2.2.1,()))))))))
def w7s (it:It) (p:Prim):(LD×T16)→Option ((LD×T16)⊕((Int×(Int×(Int×Unit)))⊕Unit)):=
 fun a=>opt.run _ (
 opt.ask _ (p.cmp .lss a.2.2.2.1 a.2.2.1) (
 opt.need _ (p.eqN 0 0)<|
 opt.need _ (p.eqN (p.len a.1) (p.len a.1))<|
 opt.alt T7 ((LD×T16)) _ (
 it _ _ (v8r p) (a.1,(a.2.1,(a.2.2.2.1,(a.2.2.1,(a.2.2.2.1,((p.ofNat (p.len a.1)),((0:Int),())))))))) (fun b=>
 opt.ret _ (Sum.inr (Sum.inl (b.1,(b.2.1,(b.2.2.1,())))))) (fun c=>
 opt.bnd ((LD×T16)) _ (some c) fun d=>
 opt.need _ (p.eqN 0 0)<|
 opt.need _ (p.eqN (p.len d.1) (p.len d.1))<|
 opt.ret _ (Sum.inl (d.1,(d.2.1,(d.2.2.1,((p.ar .add .i64 d.2.2.2.1 (1:Int)),()))))))) (
 opt.ret _ (Sum.inr (Sum.inr ()))))
def w7t (it:It) (p:Prim):(LD×T43)→Option ((LD×T43)⊕(LD×T16)):=
 fun a=>opt.run _ (
 opt.ask _ (p.cmp .lss a.2.2.2.2.2.2.2.2.2.2.2.2.1 a.2.2.2.2.2.2.2.2.2.2.2.1) (
 opt.need _ (bif (p.cmp .geq a.2.2.2.2.2.2.2.2.2.2.2.2.1 (0:Int)) then (p.cmp .lss a.2.2.2.2.2.2.2.2.2.2.2.2.1 (p.ofNat a.2.2.2.2.2.2.2.2.2.1)) else Bool.false)<|
 opt.need _ (p.rowOk a.1 (p.add a.2.2.2.2.2.2.2.2.1 (p.nat a.2.2.2.2.2.2.2.2.2.2.2.2.1)) [(CK.ref [(CR.list 2),(CR.list 1),(CR.list 2)])])<|
 opt.bnd T20 _ (g63 it p ((p.rdL (p.rdR a.1 (p.add a.2.2.2.2.2.2.2.2.1 (p.nat a.2.2.2.2.2.2.2.2.2.2.2.2.1)) 0) 0 2),(a.2.2.2.2.2.1,()))) fun b=>
 opt.bnd ((LD×T43)) _ (
 opt.run ((LD×T43)) (
 opt.ask _ (bif b.2.2.2.1 then Bool.false else Bool.true) (
 opt.need _ (p.mOk a.2.1 [SK.i,SK.i] Bool.true (D.agg [(D.int .i64 a.2.2.2.2.2.2.2.2.2.2.2.2.1),(D.int .i64 a.2.2.1)]) Bool.false [ci])<|
 opt.ask _ (p.mhas a.2.1 [SK.i,SK.i] Bool.true (D.agg [(D.int .i64 a.2.2.2.2.2.2.2.2.2.2.2.2.1),(D.int .i64 a.2.2.1)])) (
 opt.need _ (p.eqN 0 0)<|
 opt.need _ (p.eqN (p.len a.1) (p.len a.1))<|
 opt.need _ (p.eqN 0 0)<|
 opt.need _ (p.eqN (p.len a.1) (p.len a.1))<|
 opt.ret _ (a.1,((p.mset a.2.1 (p.nat (p.ofNat (p.mpos a.2.1 [SK.i,SK.i] Bool.true (D.agg [(D.int .i64 a.2.2.2.2.2.2.2.2.2.2.2.2.1),(D.int .i64 a.2.2.1)])))) (D.agg [(D.int .i64 a.2.2.2.2.2.2.2.2.2.2.2.2.1),(D.int .i64 a.2.2.1)]) (D.int .i64 (p.ar .add .i64 (p.mI a.2.1 [SK.i,SK.i] Bool.true (D.agg [(D.int .i64 a.2.2.2.2.2.2.2.2.2.2.2.2.1),(D.int .i64 a.2.2.1)]) 0) (1:Int)))),(a.2.2.1,(a.2.2.2.1,(a.2.2.2.2.1,(a.2.2.2.2.2.1,(a.2.2.2.2.2.2.1,(a.2.2.2.2.2.2.2.1,(a.2.2.2.2.2.2.2.2.1,(a.2.2.2.2.2.2.2.2.2.1,(a.2.2.2.2.2.2.2.2.2.2.1,(a.2.2.2.2.2.2.2.2.2.2.2.1,(a.2.2.2.2.2.2.2.2.2.2.2.2.1,())))))))))))))) (
 opt.need _ (p.eqN 0 0)<|
 opt.need _ (p.eqN (p.len a.1) (p.len a.1))<|
 opt.need _ (p.eqN 0 0)<|
 opt.need _ (p.eqN (p.len a.1) (p.len a.1))<|
 opt.ret _ (a.1,((p.madd a.2.1 (D.agg [(D.int .i64 a.2.2.2.2.2.2.2.2.2.2.2.2.1),(D.int .i64 a.2.2.1)]) (D.int .i64 (p.ar .add .i64 (0:Int) (1:Int)))),(a.2.2.1,(a.2.2.2.1,(a.2.2.2.2.1,(a.2.2.2.2.2.1,(a.2.2.2.2.2.2.1,(a.2.2.2.2.2.2.2.1,(a.2.2.2.2.2.2.2.2.1,(a.2.2.2.2.2.2.2.2.2.1,(a.2.2.2.2.2.2.2.2.2.2.1,(a.2.2.2.2.2.2.2.2.2.2.2.1,(a.2.2.2.2.2.2.2.2.2.2.2.2.1,()))))))))))))))) (
 opt.need _ (p.eqN 0 0)<|
 opt.need _ (p.eqN (p.len a.1) (p.len a.1))<|
 opt.need _ (p.eqN 0 0)<|
 opt.need _ (p.eqN (p.len a.1) (p.len a.1))<|
 opt.ret _ (a.1,(a.2.1,(a.2.2.1,(a.2.2.2.1,(a.2.2.2.2.1,(a.2.2.2.2.2.1,(a.2.2.2.2.2.2.1,(a.2.2.2.2.2.2.2.1,(a.2.2.2.2.2.2.2.2.1,(a.2.2.2.2.2.2.2.2.2.1,(a.2.2.2.2.2.2.2.2.2.2.1,(a.2.2.2.2.2.2.2.2.2.2.2.1,(a.2.2.2.2.2.2.2.2.2.2.2.2.1,())))))))))))))))) fun c=>
 opt.need _ (p.eqN 0 0)<|
 opt.need _ (p.eqN (p.len c.1) (p.len c.1))<|
 opt.need _ (p.eqN 0 0)<|
 opt.need _ (p.eqN (p.len c.1) (p.len c.1))<|
 opt.ret _ (Sum.inl (c.1,(c.2.1,(c.2.2.1,(c.2.2.2.1,(c.2.2.2.2.1,(c.2.2.2.2.2.1,(c.2.2.2.2.2.2.1,(c.2.2.2.2.2.2.2.1,(c.2.2.2.2.2.2.2.2.1,(c.2.2.2.2.2.2.2.2.2.1,(c.2.2.2.2.2.2.2.2.2.2.1,(c.2.2.2.2.2.2.2.2.2.2.2.1,((p.ar .add .i64 c.2.2.2.2.2.2.2.2.2.2.2.2.1 (1:Int)),()))))))))))))))) (
 opt.need _ (p.eqN 0 0)<|
 opt.need _ (p.eqN (p.len a.1) (p.len a.1))<|
 opt.need _ (p.eqN 0 0)<|
 opt.need _ (p.eqN (p.len a.1) (p.len a.1))<|
 opt.ret _ (Sum.inr (a.1,(a.2.1,(a.2.2.2.2.2.2.1,(a.2.2.2.2.2.2.2.1,())))))))
def w7u (it:It) (p:Prim):(LD×T16)→Option ((LD×T16)⊕(LD×(List ((D×D))×Unit))):=
 fun a=>opt.run _ (
 opt.ask _ (p.cmp .lss a.2.2.2.1 a.2.2.1) (
 opt.need _ (bif (p.cmp .geq a.2.2.2.1 (0:Int)) then (p.cmp .lss a.2.2.2.1 (p.ofNat (p.len a.1))) else Bool.false)<|
 opt.need _ (p.rowOk a.1 (p.add 0 (p.nat a.2.2.2.1)) [(CK.ref [(CR.list 2),(CR.list 1),(CR.list 2)])])<|
 opt.need _ (p.and (p.cmp .geq (0:Int) (0:Int)) (p.and (p.cmp .leq (0:Int) a.2.2.2.1) (p.and (p.cmp .leq a.2.2.2.1 a.2.2.2.1) (p.cmp .leq a.2.2.2.1 (p.ofNat (p.len a.1))))))<|
 opt.need _ (p.eqN 0 0)<|
 opt.need _ (p.eqN (p.len a.1) (p.len a.1))<|
 opt.need _ (p.eqN 0 0)<|
 opt.need _ (p.eqN (p.len a.1) (p.len a.1))<|
 opt.bnd ((LD×T16)) _ (
 it _ _ (w7t it p) (a.1,(a.2.1,(a.2.2.2.1,((p.rdL (p.rdR a.1 (p.add 0 (p.nat a.2.2.2.1)) 0) 0 0),((p.rdL (p.rdR a.1 (p.add 0 (p.nat a.2.2.2.1)) 0) 0 1),((p.rdL (p.rdR a.1 (p.add 0 (p.nat a.2.2.2.1)) 0) 0 2),(a.2.2.1,(a.2.2.2.1,((p.add 0 (p.nat (0:Int))),((p.sub (p.nat a.2.2.2.1) (p.nat (0:Int))),((p.sub (p.nat a.2.2.2.1) (p.nat (0:Int))),((p.ofNat (p.sub (p.nat a.2.2.2.1) (p.nat (0:Int)))),((0:Int),())))))))))))))) fun b=>
 opt.need _ (p.eqN 0 0)<|
 opt.need _ (p.eqN (p.len b.1) (p.len b.1))<|
 opt.need _ (p.eqN 0 0)<|
 opt.need _ (p.eqN (p.len b.1) (p.len b.1))<|
 opt.ret _ (Sum.inl (b.1,(b.2.1,(b.2.2.1,((p.ar .add .i64 b.2.2.2.1 (1:Int)),())))))) (
 opt.need _ (p.eqN 0 0)<|
 opt.need _ (p.eqN (p.len a.1) (p.len a.1))<|
 opt.ret _ (Sum.inr (a.1,(a.2.1,())))))
def w7v (it:It) (p:Prim):(LD×(LD×T3))→Option ((LD×(LD×T3))⊕((Int×(Int×(Int×Unit)))⊕(LD×Unit))):=
 fun a=>opt.run _ (
 opt.ask _ (p.cmp .lss a.2.2.2.1 a.2.2.1) (
 opt.alt T7 ((LD×(LD×T3))) _ (
 opt.run (((Int×(Int×(Int×Unit)))⊕(LD×(LD×(Int×(Int×Unit)))))) (
 opt.need _ (p.rowOk a.2.1 (p.nat a.2.2.2.1) [(CK.list 2),(CK.list 1)])<|
 opt.need _ (p.cmp .geq a.2.2.2.1 (0:Int))<|
 opt.alt T0 ((LD×(LD×(LD×T1)))) _ (g48 it p ((p.rdL a.2.1 (p.nat a.2.2.2.1) 0),((p.rdL a.2.1 (p.nat a.2.2.2.1) 1),()))) (fun b=>
 opt.ask _ (p.cmp .neq b.1 (0:Int)) (
 opt.ret _ (Sum.inl ((0:Int),((0:Int),(b.1,()))))) (
 opt.no _ 96)) (fun c=>
 opt.bnd ((LD×(LD×(LD×T1)))) _ (some c) fun d=>
 opt.ask _ (p.cmp .neq d.2.2.2.1 (0:Int)) (
 opt.ret _ (Sum.inl ((0:Int),((0:Int),(d.2.2.2.1,()))))) (
 opt.need _ (p.eqN 0 0)<|
 opt.need _ (p.eqN (p.len a.1) (p.len a.1))<|
 opt.need _ (p.and (p.leN (p.add 0 1) (p.len [[(D.ref [(D.list Bool.false 2 d.1),(D.list Bool.false 1 d.2.1),(D.list Bool.false 2 d.2.2.1)])]])) (p.and (p.leN (p.add 0 (p.len a.1)) (p.len a.1)) (p.and (p.leN 1 1) (p.leN (p.add (p.len a.1) 1) 1000000))))<|
 opt.need _ (p.eqN 0 0)<|
 opt.need _ (p.eqN (p.add (p.len a.1) 1) (p.len (p.app (p.cut a.1 0 (p.len a.1)) (p.cut [[(D.ref [(D.list Bool.false 2 d.1),(D.list Bool.false 1 d.2.1),(D.list Bool.false 2 d.2.2.1)])]] 0 1))))<|
 opt.ret _ (Sum.inr ((p.app (p.cut a.1 0 (p.len a.1)) (p.cut [[(D.ref [(D.list Bool.false 2 d.1),(D.list Bool.false 1 d.2.1),(D.list Bool.false 2 d.2.2.1)])]] 0 1)),(a.2.1,(a.2.2.1,(a.2.2.2.1,()))))))))) (fun e=>
 opt.ret _ (Sum.inr (Sum.inl (e.1,(e.2.1,(e.2.2.1,())))))) (fun f=>
 opt.bnd ((LD×(LD×T3))) _ (some f) fun g=>
 opt.need _ (p.eqN 0 0)<|
 opt.need _ (p.eqN (p.len g.1) (p.len g.1))<|
 opt.ret _ (Sum.inl (g.1,(g.2.1,(g.2.2.1,((p.ar .add .i64 g.2.2.2.1 (1:Int)),()))))))) (
 opt.need _ (p.eqN 0 0)<|
 opt.need _ (p.eqN (p.len a.1) (p.len a.1))<|
 opt.ret _ (Sum.inr (Sum.inr (a.1,())))))
def g27 (it:It):(p:Prim)→(LD×Unit)→Option T7:=
 fun p x=>
 opt.ask _ (p.cmp .gtr (p.ofNat (p.len x.1)) (8:Int)) (
 opt.ret _ ((0:Int),((0:Int),((6:Int),())))) (
 opt.alt T7 ((LD×Unit)) _ (
 it _ _ (w7v it p) ([],(x.1,((p.ofNat (p.len x.1)),((0:Int),()))))) (fun a=>
 opt.ret _ (a.1,(a.2.1,(a.2.2.1,())))) (fun b=>
 opt.bnd ((LD×Unit)) _ (some b) fun c=>
 opt.need _ (p.eqN 0 0)<|
 opt.need _ (p.eqN (p.len c.1) (p.len c.1))<|
 opt.need _ (p.eqN 0 0)<|
 opt.need _ (p.eqN (p.len c.1) (p.len c.1))<|
 opt.bnd ((LD×(List ((D×D))×Unit))) _ (
 it _ _ (w7u it p) (c.1,([],((p.ofNat (p.len c.1)),((0:Int),()))))) fun d=>
 opt.need _ (p.eqN 0 0)<|
 opt.need _ (p.eqN (p.len d.1) (p.len d.1))<|
 opt.alt T7 (Unit) _ (
 it _ _ (w7s it p) (d.1,(d.2.1,((p.ofNat (p.len d.1)),((0:Int),()))))) (fun e=>
 opt.ret _ (e.1,(e.2.1,(e.2.2.1,())))) (fun f=>
 opt.bnd (Unit) _ (some f) fun g=>
 opt.ret _ ((0:Int),((0:Int),((5:Int),()))))))
def G27:=g27 it0
theorem ok27:CtrOk PG v2u (G27 std):=okF (a:=an27) (l:=la27) (gC v5b (gC w85 (gN))) (by kernel_rfl) fun _ _=>by kernel_rfl
end Go.Am
end
noncomputable section
namespace Go.Am
def v2z:Ctr:=
 ⟨15,[],[],[(.ret,⟨[(0, .bool)],[],1⟩)]⟩
def la15:List LA:=
 []
def ja15:List JA:=
 [⟨15,[false,false,true,true,true,true,true,true,true,true,true,true,true,true],0,[(AX.normal,⟨[(1, .bptr 0 0),(3, .bptr 1 0),(4, .bptr 2 0),(5, .vec 3 2),(7, .bool),(9, .bptr 4 0),(15, .bptr 5 0),(17, .bptr 6 0),(19, .bptr 7 0),(21, .int .i64),(22, .int .i64),(127, .bool)],[.box [.full 8 2, .full 9 1], .box [.full 10 2, .nils], .box [.full 11 2, .nils], .row [ci,ci], .box [.int .i64, .int .i64], .box [.int .i64, .int .i64, .int .i64], .box [.int .i64, .int .i64, .int .i64], .box [.int .i64, .int .i64], .row [ci,ci], .row [(CK.list 2)], .row [ci,ci], .row [ci,ci]],170⟩)]⟩]
def v72:List CF:=
 [⟨v2o,G38⟩,⟨v2q,G36⟩,⟨w7b,G20⟩,⟨v2u,G27⟩,⟨v2v,G25⟩,⟨v2p,G37⟩,⟨v2r,G32⟩,⟨v2n,G39⟩,⟨v2w,G23⟩,⟨v2x,G21⟩,⟨w7d,G16⟩]
def an15:Anns:=
 ⟨v72,ja15,[⟨15,[false,true,true],⟨[(1, .bptr 0 0),(2, .bptr 1 0),(3, .bptr 2 0),(4, .bptr 3 0)],[.box [.full 4 2, .full 5 1], .box [.full 6 2, .nils], .box [.full 7 2, .nils], .box [.full 8 2, .nils], .row [ci,ci], .row [(CK.list 2)], .row [ci,ci], .row [ci,ci], .row [ci,ci]],170⟩⟩]⟩
def g15 (it:It):(p:Prim)→Unit→Option T2:=
 fun p x=>
 opt.need _ (p.eqN 0 0)<|
 opt.need _ (p.eqN 3 (p.len k0k))<|
 opt.need _ (p.eqN 3 (p.len k0k))<|
 opt.need _ (p.eqN 0 0)<|
 opt.need _ (p.eqN 1 (p.len k1k))<|
 opt.need _ (p.eqN 1 (p.len k1k))<|
 opt.need _ (p.eqN 0 0)<|
 opt.need _ (p.eqN 1 (p.len [[k6k,k4k]]))<|
 opt.need _ (p.eqN 1 (p.len [[k6k,k4k]]))<|
 opt.need _ (p.eqN 0 0)<|
 opt.need _ (p.eqN 1 (p.len k2k))<|
 opt.need _ (p.eqN 1 (p.len k2k))<|
 opt.need _ (p.eqN 0 0)<|
 opt.need _ (p.eqN 1 (p.len k3k))<|
 opt.need _ (p.eqN 1 (p.len k3k))<|
 opt.need _ (p.and (p.and (p.leN (p.add 0 (p.len k0k)) (p.len k0k)) (p.and (p.leN (p.add 0 (p.len k1k)) (p.len k1k)) Bool.true)) Bool.true)<|
 opt.bnd ((LD×T1)) _ (g16 it p ((p.cut k0k 0 (p.len k0k)),((p.cut k1k 0 (p.len k1k)),()))) fun a=>
 opt.need _ (p.plain a.1)<|
 opt.need _ (p.and (p.and (p.leN (p.add 0 (p.len k0k)) (p.len k0k)) (p.and (p.leN (p.add 0 (p.len k1k)) (p.len k1k)) Bool.true)) (p.and Bool.true Bool.true))<|
 opt.bnd ((Bool×(Int×Unit))) _ (g21 it p ((p.cut k0k 0 (p.len k0k)),((p.cut k1k 0 (p.len k1k)),((3:Int),((2:Int),()))))) fun b=>
 opt.need _ (p.and (p.and (p.leN (p.add 0 (p.len k0k)) (p.len k0k)) (p.and (p.leN (p.add 0 (p.len k1k)) (p.len k1k)) Bool.true)) (p.and (p.leN (p.add 0 4) (p.len [[k4k,k4k],[k5k,k4k],[k5k,k5k],[k4k,k5k]])) Bool.true))<|
 opt.bnd T7 _ (g23 it p ((p.cut k0k 0 (p.len k0k)),((p.cut k1k 0 (p.len k1k)),((p.cut [[k4k,k4k],[k5k,k4k],[k5k,k5k],[k4k,k5k]] 0 4),())))) fun c=>
 opt.need _ (p.and (p.and (p.leN (p.add 0 (p.len k0k)) (p.len k0k)) (p.and (p.leN (p.add 0 (p.len k1k)) (p.len k1k)) Bool.true)) (p.and (p.and (p.leN (p.add 0 (p.len [[k6k,k4k]])) (p.len [[k6k,k4k]])) (p.and Bool.true Bool.true)) (p.and Bool.true Bool.true)))<|
 opt.bnd T0 _ (g39 it p ((p.cut k0k 0 (p.len k0k)),((p.cut k1k 0 (p.len k1k)),((p.cut [[k6k,k4k]] 0 (p.len [[k6k,k4k]])),([],((1:Int),((0:Int),((5:Int),())))))))) fun d=>
 opt.need _ (p.and (p.and (p.leN (p.add 0 (p.len k0k)) (p.len k0k)) (p.and (p.leN (p.add 0 (p.len k1k)) (p.len k1k)) Bool.true)) (p.and (p.and (p.leN (p.add 0 (p.len [[k6k,k4k]])) (p.len [[k6k,k4k]])) (p.and Bool.true Bool.true)) (p.and Bool.true Bool.true)))<|
 opt.bnd T0 _ (g39 it p ((p.cut k0k 0 (p.len k0k)),((p.cut k1k 0 (p.len k1k)),((p.cut [[k6k,k4k]] 0 (p.len [[k6k,k4k]])),([],((1:Int),((0:Int),((6:Int),())))))))) fun e=>
 opt.need _ (p.and (p.and (p.leN (p.add 0 (p.len k0k)) (p.len k0k)) (p.and (p.leN (p.add 0 (p.len k1k)) (p.len k1k)) Bool.true)) (p.and (p.and (p.leN (p.add 0 (p.len k3k)) (p.len k3k)) (p.and Bool.true Bool.true)) Bool.true))<|
 opt.bnd T10 _ (g32 it p ((p.cut k0k 0 (p.len k0k)),((p.cut k1k 0 (p.len k1k)),((p.cut k3k 0 (p.len k3k)),([],()))))) fun f=>
 opt.need _ (p.and (p.and (p.leN (p.add 0 (p.len k0k)) (p.len k0k)) (p.and (p.leN (p.add 0 (p.len k1k)) (p.len k1k)) Bool.true)) (p.and (p.and (p.leN (p.add 0 (p.len k2k)) (p.len k2k)) (p.and Bool.true Bool.true)) Bool.true))<|
 opt.bnd T10 _ (g32 it p ((p.cut k0k 0 (p.len k0k)),((p.cut k1k 0 (p.len k1k)),((p.cut k2k 0 (p.len k2k)),([],()))))) fun g=>
 opt.need _ (p.and (p.and (p.leN (p.add 0 (p.len k0k)) (p.len k0k)) (p.and (p.leN (p.add 0 (p.len k1k)) (p.len k1k)) Bool.true)) (p.and (p.and (p.leN (p.add 0 (p.len k3k)) (p.len k3k)) (p.and Bool.true Bool.true)) Bool.true))<|
 opt.bnd T10 _ (g37 it p ((p.cut k0k 0 (p.len k0k)),((p.cut k1k 0 (p.len k1k)),((p.cut k3k 0 (p.len k3k)),([],()))))) fun h=>
 opt.need _ (p.and (p.and (p.leN (p.add 0 (p.len k0k)) (p.len k0k)) (p.and (p.leN (p.add 0 (p.len k1k)) (p.len k1k)) Bool.true)) (p.and (p.and (p.leN (p.add 0 (p.len k2k)) (p.len k2k)) (p.and Bool.true Bool.true)) Bool.true))<|
 opt.bnd T7 _ (g25 it p ((p.cut k0k 0 (p.len k0k)),((p.cut k1k 0 (p.len k1k)),((p.cut k2k 0 (p.len k2k)),([],()))))) fun i=>
 opt.need _ (p.and (bif (bif (p.leN (p.add 0 (p.len k0k)) (p.len k0k)) then (bif (p.leN (p.add 0 (p.len k1k)) (p.len k1k)) then Bool.true else Bool.false) else Bool.false) then (bif (bif (p.leN (p.add 0 (p.len k2k)) (p.len k2k)) then Bool.true else Bool.false) then (bif (bif (p.leN (p.add 0 (p.len k3k)) (p.len k3k)) then Bool.true else Bool.false) then Bool.true else Bool.false) else Bool.false) else Bool.false) Bool.true)<|
 opt.bnd T7 _ (g27 it p ([[(D.list Bool.false 2 (p.cut k0k 0 (p.len k0k))),(D.list Bool.false 1 (p.cut k1k 0 (p.len k1k)))],[(D.list Bool.false 2 (p.cut k2k 0 (p.len k2k))),(D.list Bool.true 0 [])],[(D.list Bool.false 2 (p.cut k3k 0 (p.len k3k))),(D.list Bool.true 0 [])]],())) fun j=>
 opt.bnd ((LD×(LD×(LD×(LD×(LD×T80)))))) _ (
 opt.run ((LD×(LD×(LD×(LD×(LD×T80)))))) (
 opt.ask _ (p.cmp .neq a.2.1 (0:Int)) (
 opt.need _ (p.eqN 0 0)<|
 opt.need _ (p.eqN (p.len k0k) (p.len k0k))<|
 opt.need _ (p.eqN (p.len k0k) (p.len k0k))<|
 opt.need _ (p.eqN 0 0)<|
 opt.need _ (p.eqN (p.len k1k) (p.len k1k))<|
 opt.need _ (p.eqN (p.len k1k) (p.len k1k))<|
 opt.need _ (p.eqN 0 0)<|
 opt.need _ (p.eqN (p.len k2k) (p.len k2k))<|
 opt.need _ (p.eqN (p.len k2k) (p.len k2k))<|
 opt.need _ (p.eqN 0 0)<|
 opt.need _ (p.eqN (p.len k3k) (p.len k3k))<|
 opt.need _ (p.eqN (p.len k3k) (p.len k3k))<|
 opt.need _ (p.eqN 0 0)<|
 opt.need _ (p.eqN (p.len a.1) (p.len a.1))<|
 opt.ret _ (a.1,(k0k,(k1k,(k2k,(k3k,(c.1,(c.2.1,(g.1,(g.2.1,(g.2.2.1,(h.1,(h.2.1,(h.2.2.1,(i.1,(i.2.1,(b.1,(j.1,(j.2.1,(Bool.true,())))))))))))))))))))) (
 opt.ask _ (p.cmp .neq b.2.1 (0:Int)) (
 opt.need _ (p.eqN 0 0)<|
 opt.need _ (p.eqN (p.len k0k) (p.len k0k))<|
 opt.need _ (p.eqN (p.len k0k) (p.len k0k))<|
 opt.need _ (p.eqN 0 0)<|
 opt.need _ (p.eqN (p.len k1k) (p.len k1k))<|
 opt.need _ (p.eqN (p.len k1k) (p.len k1k))<|
 opt.need _ (p.eqN 0 0)<|
 opt.need _ (p.eqN (p.len k2k) (p.len k2k))<|
 opt.need _ (p.eqN (p.len k2k) (p.len k2k))<|
 opt.need _ (p.eqN 0 0)<|
 opt.need _ (p.eqN (p.len k3k) (p.len k3k))<|
 opt.need _ (p.eqN (p.len k3k) (p.len k3k))<|
 opt.need _ (p.eqN 0 0)<|
 opt.need _ (p.eqN (p.len a.1) (p.len a.1))<|
 opt.ret _ (a.1,(k0k,(k1k,(k2k,(k3k,(c.1,(c.2.1,(g.1,(g.2.1,(g.2.2.1,(h.1,(h.2.1,(h.2.2.1,(i.1,(i.2.1,(b.1,(j.1,(j.2.1,(Bool.true,())))))))))))))))))))) (
 opt.ask _ (p.cmp .neq c.2.2.1 (0:Int)) (
 opt.need _ (p.eqN 0 0)<|
 opt.need _ (p.eqN (p.len k0k) (p.len k0k))<|
 opt.need _ (p.eqN (p.len k0k) (p.len k0k))<|
 opt.need _ (p.eqN 0 0)<|
 opt.need _ (p.eqN (p.len k1k) (p.len k1k))<|
 opt.need _ (p.eqN (p.len k1k) (p.len k1k))<|
 opt.need _ (p.eqN 0 0)<|
 opt.need _ (p.eqN (p.len k2k) (p.len k2k))<|
 opt.need _ (p.eqN (p.len k2k) (p.len k2k))<|
 opt.need _ (p.eqN 0 0)<|
 opt.need _ (p.eqN (p.len k3k) (p.len k3k))<|
 opt.need _ (p.eqN (p.len k3k) (p.len k3k))<|
 opt.need _ (p.eqN 0 0)<|
 opt.need _ (p.eqN (p.len a.1) (p.len a.1))<|
 opt.ret _ (a.1,(k0k,(k1k,(k2k,(k3k,(c.1,(c.2.1,(g.1,(g.2.1,(g.2.2.1,(h.1,(h.2.1,(h.2.2.1,(i.1,(i.2.1,(b.1,(j.1,(j.2.1,(Bool.true,())))))))))))))))))))) (
 opt.ask _ (p.cmp .neq d.1 (0:Int)) (
 opt.need _ (p.eqN 0 0)<|
 opt.need _ (p.eqN (p.len k0k) (p.len k0k))<|
 opt.need _ (p.eqN (p.len k0k) (p.len k0k))<|
 opt.need _ (p.eqN 0 0)<|
 opt.need _ (p.eqN (p.len k1k) (p.len k1k))<|
 opt.need _ (p.eqN (p.len k1k) (p.len k1k))<|
 opt.need _ (p.eqN 0 0)<|
 opt.need _ (p.eqN (p.len k2k) (p.len k2k))<|
 opt.need _ (p.eqN (p.len k2k) (p.len k2k))<|
 opt.need _ (p.eqN 0 0)<|
 opt.need _ (p.eqN (p.len k3k) (p.len k3k))<|
 opt.need _ (p.eqN (p.len k3k) (p.len k3k))<|
 opt.need _ (p.eqN 0 0)<|
 opt.need _ (p.eqN (p.len a.1) (p.len a.1))<|
 opt.ret _ (a.1,(k0k,(k1k,(k2k,(k3k,(c.1,(c.2.1,(g.1,(g.2.1,(g.2.2.1,(h.1,(h.2.1,(h.2.2.1,(i.1,(i.2.1,(b.1,(j.1,(j.2.1,(Bool.true,())))))))))))))))))))) (
 opt.ask _ (p.cmp .neq e.1 (14:Int)) (
 opt.need _ (p.eqN 0 0)<|
 opt.need _ (p.eqN (p.len k0k) (p.len k0k))<|
 opt.need _ (p.eqN (p.len k0k) (p.len k0k))<|
 opt.need _ (p.eqN 0 0)<|
 opt.need _ (p.eqN (p.len k1k) (p.len k1k))<|
 opt.need _ (p.eqN (p.len k1k) (p.len k1k))<|
 opt.need _ (p.eqN 0 0)<|
 opt.need _ (p.eqN (p.len k2k) (p.len k2k))<|
 opt.need _ (p.eqN (p.len k2k) (p.len k2k))<|
 opt.need _ (p.eqN 0 0)<|
 opt.need _ (p.eqN (p.len k3k) (p.len k3k))<|
 opt.need _ (p.eqN (p.len k3k) (p.len k3k))<|
 opt.need _ (p.eqN 0 0)<|
 opt.need _ (p.eqN (p.len a.1) (p.len a.1))<|
 opt.ret _ (a.1,(k0k,(k1k,(k2k,(k3k,(c.1,(c.2.1,(g.1,(g.2.1,(g.2.2.1,(h.1,(h.2.1,(h.2.2.1,(i.1,(i.2.1,(b.1,(j.1,(j.2.1,(Bool.true,())))))))))))))))))))) (
 opt.ask _ (p.cmp .neq f.2.2.2.1 (21:Int)) (
 opt.need _ (p.eqN 0 0)<|
 opt.need _ (p.eqN (p.len k0k) (p.len k0k))<|
 opt.need _ (p.eqN (p.len k0k) (p.len k0k))<|
 opt.need _ (p.eqN 0 0)<|
 opt.need _ (p.eqN (p.len k1k) (p.len k1k))<|
 opt.need _ (p.eqN (p.len k1k) (p.len k1k))<|
 opt.need _ (p.eqN 0 0)<|
 opt.need _ (p.eqN (p.len k2k) (p.len k2k))<|
 opt.need _ (p.eqN (p.len k2k) (p.len k2k))<|
 opt.need _ (p.eqN 0 0)<|
 opt.need _ (p.eqN (p.len k3k) (p.len k3k))<|
 opt.need _ (p.eqN (p.len k3k) (p.len k3k))<|
 opt.need _ (p.eqN 0 0)<|
 opt.need _ (p.eqN (p.len a.1) (p.len a.1))<|
 opt.ret _ (a.1,(k0k,(k1k,(k2k,(k3k,(c.1,(c.2.1,(g.1,(g.2.1,(g.2.2.1,(h.1,(h.2.1,(h.2.2.1,(i.1,(i.2.1,(b.1,(j.1,(j.2.1,(Bool.true,())))))))))))))))))))) (
 opt.ask _ (p.cmp .neq g.2.2.2.1 (0:Int)) (
 opt.need _ (p.eqN 0 0)<|
 opt.need _ (p.eqN (p.len k0k) (p.len k0k))<|
 opt.need _ (p.eqN (p.len k0k) (p.len k0k))<|
 opt.need _ (p.eqN 0 0)<|
 opt.need _ (p.eqN (p.len k1k) (p.len k1k))<|
 opt.need _ (p.eqN (p.len k1k) (p.len k1k))<|
 opt.need _ (p.eqN 0 0)<|
 opt.need _ (p.eqN (p.len k2k) (p.len k2k))<|
 opt.need _ (p.eqN (p.len k2k) (p.len k2k))<|
 opt.need _ (p.eqN 0 0)<|
 opt.need _ (p.eqN (p.len k3k) (p.len k3k))<|
 opt.need _ (p.eqN (p.len k3k) (p.len k3k))<|
 opt.need _ (p.eqN 0 0)<|
 opt.need _ (p.eqN (p.len a.1) (p.len a.1))<|
 opt.ret _ (a.1,(k0k,(k1k,(k2k,(k3k,(c.1,(c.2.1,(g.1,(g.2.1,(g.2.2.1,(h.1,(h.2.1,(h.2.2.1,(i.1,(i.2.1,(b.1,(j.1,(j.2.1,(Bool.true,())))))))))))))))))))) (
 opt.ask _ (p.cmp .neq h.2.2.2.1 (0:Int)) (
 opt.need _ (p.eqN 0 0)<|
 opt.need _ (p.eqN (p.len k0k) (p.len k0k))<|
 opt.need _ (p.eqN (p.len k0k) (p.len k0k))<|
 opt.need _ (p.eqN 0 0)<|
 opt.need _ (p.eqN (p.len k1k) (p.len k1k))<|
 opt.need _ (p.eqN (p.len k1k) (p.len k1k))<|
 opt.need _ (p.eqN 0 0)<|
 opt.need _ (p.eqN (p.len k2k) (p.len k2k))<|
 opt.need _ (p.eqN (p.len k2k) (p.len k2k))<|
 opt.need _ (p.eqN 0 0)<|
 opt.need _ (p.eqN (p.len k3k) (p.len k3k))<|
 opt.need _ (p.eqN (p.len k3k) (p.len k3k))<|
 opt.need _ (p.eqN 0 0)<|
 opt.need _ (p.eqN (p.len a.1) (p.len a.1))<|
 opt.ret _ (a.1,(k0k,(k1k,(k2k,(k3k,(c.1,(c.2.1,(g.1,(g.2.1,(g.2.2.1,(h.1,(h.2.1,(h.2.2.1,(i.1,(i.2.1,(b.1,(j.1,(j.2.1,(Bool.true,())))))))))))))))))))) (
 opt.ask _ (p.cmp .neq i.2.2.1 (0:Int)) (
 opt.need _ (p.eqN 0 0)<|
 opt.need _ (p.eqN (p.len k0k) (p.len k0k))<|
 opt.need _ (p.eqN (p.len k0k) (p.len k0k))<|
 opt.need _ (p.eqN 0 0)<|
 opt.need _ (p.eqN (p.len k1k) (p.len k1k))<|
 opt.need _ (p.eqN (p.len k1k) (p.len k1k))<|
 opt.need _ (p.eqN 0 0)<|
 opt.need _ (p.eqN (p.len k2k) (p.len k2k))<|
 opt.need _ (p.eqN (p.len k2k) (p.len k2k))<|
 opt.need _ (p.eqN 0 0)<|
 opt.need _ (p.eqN (p.len k3k) (p.len k3k))<|
 opt.need _ (p.eqN (p.len k3k) (p.len k3k))<|
 opt.need _ (p.eqN 0 0)<|
 opt.need _ (p.eqN (p.len a.1) (p.len a.1))<|
 opt.ret _ (a.1,(k0k,(k1k,(k2k,(k3k,(c.1,(c.2.1,(g.1,(g.2.1,(g.2.2.1,(h.1,(h.2.1,(h.2.2.1,(i.1,(i.2.1,(b.1,(j.1,(j.2.1,(Bool.true,())))))))))))))))))))) (
 opt.need _ (p.eqN 0 0)<|
 opt.need _ (p.eqN (p.len k0k) (p.len k0k))<|
 opt.need _ (p.eqN (p.len k0k) (p.len k0k))<|
 opt.need _ (p.eqN 0 0)<|
 opt.need _ (p.eqN (p.len k1k) (p.len k1k))<|
 opt.need _ (p.eqN (p.len k1k) (p.len k1k))<|
 opt.need _ (p.eqN 0 0)<|
 opt.need _ (p.eqN (p.len k2k) (p.len k2k))<|
 opt.need _ (p.eqN (p.len k2k) (p.len k2k))<|
 opt.need _ (p.eqN 0 0)<|
 opt.need _ (p.eqN (p.len k3k) (p.len k3k))<|
 opt.need _ (p.eqN (p.len k3k) (p.len k3k))<|
 opt.need _ (p.eqN 0 0)<|
 opt.need _ (p.eqN (p.len a.1) (p.len a.1))<|
 opt.ret _ (a.1,(k0k,(k1k,(k2k,(k3k,(c.1,(c.2.1,(g.1,(g.2.1,(g.2.2.1,(h.1,(h.2.1,(h.2.2.1,(i.1,(i.2.1,(b.1,(j.1,(j.2.1,((p.cmp .neq j.2.2.1 (0:Int)),())))))))))))))))))))))))))))))) fun k=>
 opt.ask _ k.2.2.2.2.2.2.2.2.2.2.2.2.2.2.2.2.2.2.1 (
 opt.ret _ (Bool.false,())) (
 opt.need _ (p.and (p.leN (p.add 0 (p.len k.1)) (p.len k.1)) (p.and (p.leN (p.add 0 4) (p.len [[k4k,k4k],[(D.int .i64 (5:Int)),k4k],[(D.int .i64 (1:Int)),k5k],[k4k,k5k]])) Bool.true))<|
 opt.bnd T2 _ (g20 it p ((p.cut k.1 0 (p.len k.1)),((p.cut [[k4k,k4k],[(D.int .i64 (5:Int)),k4k],[(D.int .i64 (1:Int)),k5k],[k4k,k5k]] 0 4),()))) fun l=>
 opt.ask _ l.1 (
 opt.ask _ k.2.2.2.2.2.2.2.2.2.2.2.2.2.2.2.1 (
 opt.ask _ (bif (p.cmp .eql k.2.2.2.2.2.1 (5:Int)) then (bif (p.cmp .eql k.2.2.2.2.2.2.1 (0:Int)) then Bool.true else Bool.false) else Bool.false) (
 opt.need _ (p.and (p.and (p.leN (p.add 0 (p.len k.2.1)) (p.len k.2.1)) (p.and (p.leN (p.add 0 (p.len k.2.2.1)) (p.len k.2.2.1)) Bool.true)) (p.and (p.and (p.leN (p.add 0 (p.len k.2.2.2.1)) (p.len k.2.2.2.1)) (p.and Bool.true Bool.true)) (p.and Bool.true Bool.true)))<|
 opt.bnd T0 _ (g36 it p ((p.cut k.2.1 0 (p.len k.2.1)),((p.cut k.2.2.1 0 (p.len k.2.2.1)),((p.cut k.2.2.2.1 0 (p.len k.2.2.2.1)),([],(k.2.2.2.2.2.2.2.1,(k.2.2.2.2.2.2.2.2.1,(k.2.2.2.2.2.2.2.2.2.1,())))))))) fun m=>
 opt.ask _ (p.cmp .eql m.1 (0:Int)) (
 opt.need _ (p.and (p.and (p.leN (p.add 0 (p.len k.2.1)) (p.len k.2.1)) (p.and (p.leN (p.add 0 (p.len k.2.2.1)) (p.len k.2.2.1)) Bool.true)) (p.and (p.and (p.leN (p.add 0 (p.len k.2.2.2.2.1)) (p.len k.2.2.2.2.1)) (p.and Bool.true Bool.true)) (p.and Bool.true Bool.true)))<|
 opt.bnd T0 _ (g38 it p ((p.cut k.2.1 0 (p.len k.2.1)),((p.cut k.2.2.1 0 (p.len k.2.2.1)),((p.cut k.2.2.2.2.1 0 (p.len k.2.2.2.2.1)),([],(k.2.2.2.2.2.2.2.2.2.2.1,(k.2.2.2.2.2.2.2.2.2.2.2.1,(k.2.2.2.2.2.2.2.2.2.2.2.2.1,())))))))) fun n=>
 opt.ask _ (p.cmp .eql n.1 (0:Int)) (
 opt.ask _ (bif (p.cmp .eql k.2.2.2.2.2.2.2.2.2.2.2.2.2.1 (1:Int)) then (bif (p.cmp .eql k.2.2.2.2.2.2.2.2.2.2.2.2.2.2.1 (2:Int)) then Bool.true else Bool.false) else Bool.false) (
 opt.ask _ (p.cmp .eql k.2.2.2.2.2.2.2.2.2.2.2.2.2.2.2.2.1 (0:Int)) (
 opt.ret _ ((p.cmp .eql k.2.2.2.2.2.2.2.2.2.2.2.2.2.2.2.2.2.1 (2:Int)),())) (
 opt.ret _ (Bool.false,()))) (
 opt.ret _ (Bool.false,()))) (
 opt.ret _ (Bool.false,()))) (
 opt.ret _ (Bool.false,()))) (
 opt.ret _ (Bool.false,()))) (
 opt.ret _ (Bool.false,()))) (
 opt.ret _ (Bool.false,())))
def G15:=g15 it0
theorem ok15:CtrOk PG v2z (G15 std):=okF (a:=an15) (l:=la15) (gC ok38 (gC ok36 (gC v9f (gC ok27 (gC ok25 (gC ok37 (gC ok32 (gC ok39 (gC ok23 (gC ok21 (gC v9h (gN)))))))))))) (by kernel_rfl) fun _ _=>by kernel_rfl
end Go.Am
end
section
namespace Go.Am
theorem v5t {i j:It} (h:i.Le j):∀ s,le (v1o i std s) (v1o j std s):=fun _=>z0u (h _ _ _ _ _ (fun _=>le_refl _)) (fun _=>le_refl _) (fun _=>le_refl _)
theorem mg87 {i j:It} (h:i.Le j):∀ s,le (g87 i std s) (g87 j std s):=fun _=>z0c (le_refl _) (fun _=>z0c (le_refl _) (fun _=>z0a (z0c (v5t h _) (fun _=>le_refl _))))
theorem w9u {i j:It} (h:i.Le j):∀ s,le (y8f i std s) (y8f j std s):=fun _=>z0z (z0k (z0a (z0a (z0c (h _ _ _ _ _ (fun _=>le_refl _)) (fun _=>le_refl _)))) (le_refl _))
theorem v9i {i j:It} (h:i.Le j):∀ s,le (g99 i std s) (g99 j std s):=fun _=>z0c (h _ _ _ _ _ (w9u h)) (fun _=>le_refl _)
theorem w8j {i j:It} (h:i.Le j):∀ s,le (g53 i std s) (g53 j std s):=fun _=>z0u (h _ _ _ _ _ (fun _=>le_refl _)) (fun _=>le_refl _) (fun _=>le_refl _)
theorem w8h {i j:It} (h:i.Le j):∀ s,le (g60 i std s) (g60 j std s):=fun _=>z0a (z0a (z0a (z0a (z0c (h _ _ _ _ _ (fun _=>le_refl _)) (fun _=>le_refl _)))))
theorem mg20 {i j:It} (h:i.Le j):∀ s,le (g20 i std s) (g20 j std s):=fun _=>z0k (le_refl _) (z0u (h _ _ _ _ _ (fun _=>le_refl _)) (fun _=>le_refl _) (fun _=>le_refl _))
theorem v0m {i j:It} (h:i.Le j):∀ s,le (x6t i std s) (x6t j std s):=fun _=>z0z (z0k (z0a (z0a (z0c (w8j h _) (fun _=>le_refl _)))) (le_refl _))
theorem mg18 {i j:It} (h:i.Le j):∀ s,le (g18 i std s) (g18 j std s):=fun _=>z0c (z0z (z0c (le_refl _) (fun _=>z0k (le_refl _) (z0k (le_refl _) (z0u (h _ _ _ _ _ (fun _=>le_refl _)) (fun _=>le_refl _) (fun _=>le_refl _)))))) (fun _=>z0k (le_refl _) (z0c (z0z (z0c (w8j h _) (fun _=>z0k (le_refl _) (z0u (h _ _ _ _ _ (v0m h)) (fun _=>le_refl _) (fun _=>le_refl _))))) (fun _=>le_refl _)))
theorem v4p {i j:It} (h:i.Le j):∀ s,le (g57 i std s) (g57 j std s):=fun _=>z0k (le_refl _) (z0u (z0z (z0u (h _ _ _ _ _ (fun _=>le_refl _)) (fun _=>le_refl _) (fun _=>le_refl _))) (fun _=>le_refl _) (fun _=>le_refl _))
theorem w9v {i j:It} (h:i.Le j):∀ s,le (w7g i std s) (w7g j std s):=fun _=>z0z (z0k (z0a (z0a (z0c (le_refl _) (fun _=>z0c (h _ _ _ _ _ (fun _=>le_refl _)) (fun _=>le_refl _))))) (le_refl _))
theorem v9j {i j:It} (h:i.Le j):∀ s,le (g93 i std s) (g93 j std s):=fun _=>z0c (h _ _ _ _ _ (w9v h)) (fun _=>le_refl _)
theorem v9m {i j:It} (h:i.Le j):∀ s,le (g65 i std s) (g65 j std s):=fun _=>z0a (z0c (v9j h _) (fun _=>le_refl _))
theorem mg76 {i j:It} (h:i.Le j):∀ s,le (g76 i std s) (g76 j std s):=fun _=>z0c (le_refl _) (fun _=>z0c (le_refl _) (fun _=>z0k (le_refl _) (z0a (z0c (v9j h _) (fun _=>le_refl _)))))
theorem mg68 {i j:It} (h:i.Le j):∀ s,le (g68 i std s) (g68 j std s):=fun _=>z0c (le_refl _) (fun _=>z0k (le_refl _) (z0c (v9m h _) (fun _=>le_refl _)))
theorem v9l {i j:It} (h:i.Le j):∀ s,le (g78 i std s) (g78 j std s):=fun _=>z0a (z0c (h _ _ _ _ _ (fun _=>le_refl _)) (fun _=>le_refl _))
theorem mg92 {i j:It} (h:i.Le j):∀ s,le (g92 i std s) (g92 j std s):=fun _=>z0c (v9l h _) (fun _=>z0c (v9l h _) (fun _=>le_refl _))
theorem w9z {i j:It} (h:i.Le j):∀ s,le (w7h i std s) (w7h j std s):=fun _=>z0z (z0k (z0a (z0a (z0c (mg92 h _) (fun _=>le_refl _)))) (le_refl _))
theorem w90 {i j:It} (h:i.Le j):∀ s,le (w7i i std s) (w7i j std s):=fun _=>z0z (z0k (z0a (z0a (z0c (z0z (z0a (z0a (z0a (z0a (z0a (z0u (h _ _ _ _ _ (fun _=>le_refl _)) (fun _=>le_refl _) (fun _=>le_refl _)))))))) (fun _=>le_refl _)))) (le_refl _))
theorem w91 {i j:It} (h:i.Le j):∀ s,le (w7j i std s) (w7j j std s):=fun _=>z0z (z0k (z0a (z0a (z0a (z0a (z0c (h _ _ _ _ _ (fun _=>le_refl _)) (fun _=>le_refl _)))))) (le_refl _))
theorem v5q {i j:It} (h:i.Le j):∀ s,le (g63 i std s) (g63 j std s):=fun _=>z0c (h _ _ _ _ _ (w91 h)) (fun _=>z0a (z0a (z0a (z0a (z0a (z0c (h _ _ _ _ _ (w90 h)) (fun _=>z0a (z0a (z0c (h _ _ _ _ _ (w9z h)) (fun _=>le_refl _))))))))))
theorem w1l {i j:It} (h:i.Le j):∀ s,le (z6q i std s) (z6q j std s):=fun _=>z0z (z0k (z0a (z0a (z0a (z0a (z0c (mg87 h _) (fun _=>le_refl _)))))) (le_refl _))
theorem w1m {i j:It} (h:i.Le j):∀ s,le (z8n i std s) (z8n j std s):=fun _=>z0z (z0k (z0a (z0a (z0a (z0c (h _ _ _ _ _ (w1l h)) (fun _=>le_refl _))))) (le_refl _))
theorem w9r {i j:It} (h:i.Le j):∀ s,le (x8r i std s) (x8r j std s):=fun _=>z0a (z0a (z0a (z0c (h _ _ _ _ _ (w1m h)) (fun _=>le_refl _))))
theorem w1o {i j:It} (h:i.Le j):∀ s,le (y4q i std s) (y4q j std s):=fun _=>z0z (z0k (z0a (z0a (z0a (z0c (w9r h _) (fun _=>le_refl _))))) (le_refl _))
theorem w9t {i j:It} (h:i.Le j):∀ s,le (x8t i std s) (x8t j std s):=fun _=>z0a (z0a (z0a (z0c (h _ _ _ _ _ (w1o h)) (fun _=>le_refl _))))
theorem w9p {i j:It} (h:i.Le j):∀ s,le (x8p i std s) (x8p j std s):=fun _=>z0c (le_refl _) (fun _=>z0a (z0a (z0a (z0c (w9t h _) (fun _=>le_refl _)))))
theorem w1k {i j:It} (h:i.Le j):∀ s,le (z8m i std s) (z8m j std s):=fun _=>z0z (z0k (z0a (z0a (z0c (h _ _ _ _ _ (fun _=>le_refl _)) (fun _=>le_refl _)))) (le_refl _))
theorem w9q {i j:It} (h:i.Le j):∀ s,le (x8q i std s) (x8q j std s):=fun _=>z0a (z0a (z0c (h _ _ _ _ _ (w1k h)) (fun _=>le_refl _)))
theorem w1n {i j:It} (h:i.Le j):∀ s,le (y4p i std s) (y4p j std s):=fun _=>z0z (z0k (z0a (z0a (z0c (w9q h _) (fun _=>le_refl _)))) (le_refl _))
theorem w9s {i j:It} (h:i.Le j):∀ s,le (x8s i std s) (x8s j std s):=fun _=>z0a (z0a (z0c (h _ _ _ _ _ (w1n h)) (fun _=>le_refl _)))
theorem w9o {i j:It} (h:i.Le j):∀ s,le (x52 i std s) (x52 j std s):=fun _=>z0c (le_refl _) (fun _=>z0a (z0a (z0c (w9s h _) (fun _=>le_refl _))))
theorem v5p {i j:It} (h:i.Le j):∀ s,le (v1m i std s) (v1m j std s):=fun _=>x8g (w9p h _) (le_refl _)
theorem v5o {i j:It} (h:i.Le j):∀ s,le (v1l i std s) (v1l j std s):=fun _=>x8g (w9o h _) (le_refl _)
theorem w9w {i j:It} (h:i.Le j):∀ s,le (x6r i std s) (x6r j std s):=fun _=>z0z (z0k (z0a (z0a (z0c (h _ _ _ _ _ (fun _=>le_refl _)) (fun _=>le_refl _)))) (le_refl _))
theorem v9k {i j:It} (h:i.Le j):∀ s,le (g88 i std s) (g88 j std s):=fun _=>z0c (h _ _ _ _ _ (w9w h)) (fun _=>le_refl _)
theorem w5w {i j:It} (h:i.Le j):∀ s,le (y2d i std s) (y2d j std s):=fun _=>z0z (z0k (z0a (z0a (z0a (z0a (z0k (z0a (z0c (h _ _ _ _ _ (fun _=>le_refl _)) (fun _=>le_refl _))) (le_refl _)))))) (le_refl _))
theorem v5u {i j:It} (h:i.Le j):∀ s,le (w6o i std s) (w6o j std s):=fun _=>z0k (le_refl _) (z0u (h _ _ _ _ _ (w5w h)) (fun _=>le_refl _) (fun _=>le_refl _))
theorem mg86 {i j:It} (h:i.Le j):∀ s,le (g86 i std s) (g86 j std s):=fun _=>z0a (z0a (z0a (z0a (z0a (z0c (v5p h _) (fun _=>z0c (v5u h _) (fun _=>le_refl _)))))))
theorem mg89 {i j:It} (h:i.Le j):∀ s,le (g89 i std s) (g89 j std s):=fun _=>z0c (h _ _ _ _ _ (fun _=>le_refl _)) (fun _=>le_refl _)
theorem w8i {i j:It} (h:i.Le j):∀ s,le (g59 i std s) (g59 j std s):=fun _=>z0c (mg86 h _) (fun _=>z0k (le_refl _) (z0a (z0c (v9k h _) (fun _=>z0a (z0c (mg89 h _) (fun _=>z0a (z0c (v9k h _) (fun _=>le_refl _))))))))
theorem w9x {i j:It} (h:i.Le j):∀ s,le (x0z i std s) (x0z j std s):=fun _=>z0z (z0k (z0c (z0z (z0a (z0a (z0a (z0c (v9i h _) (fun _=>le_refl _)))))) (fun _=>le_refl _)) (le_refl _))
theorem w9y {i j:It} (h:i.Le j):∀ s,le (y2r i std s) (y2r j std s):=fun _=>z0z (z0k (z0a (z0a (z0c (z0z (z0a (z0a (z0a (z0a (z0a (z0u (h _ _ _ _ _ (fun _=>le_refl _)) (fun _=>le_refl _) (fun _=>le_refl _)))))))) (fun _=>le_refl _)))) (le_refl _))
theorem mg80 {i j:It} (h:i.Le j):∀ s,le (g80 i std s) (g80 j std s):=fun _=>z0a (z0a (z0a (z0c (h _ _ _ _ _ (w9y h)) (fun _=>z0a (z0a (z0c (v5o h _) (fun _=>z0a (z0a (z0a (z0c (v9i h _) (fun _=>z0a (z0a (z0a (z0a (z0a (z0c (h _ _ _ _ _ (w9x h)) (fun _=>le_refl _)))))))))))))))))
theorem w96 {i j:It} (h:i.Le j):∀ s,le (x20 i std s) (x20 j std s):=fun _=>z0z (z0k (z0a (z0a (z0c (w8h h _) (fun _=>z0c (w8i h _) (fun _=>z0c (mg80 h _) (fun _=>le_refl _)))))) (le_refl _))
theorem w5v {i j:It} (h:i.Le j):∀ s,le (g48 i std s) (g48 j std s):=fun _=>z0c (mg18 h _) (fun _=>z0k (le_refl _) (z0c (w8h h _) (fun _=>z0c (w8i h _) (fun _=>z0c (h _ _ _ _ _ (w96 h)) (fun _=>le_refl _)))))
theorem mg16 {i j:It} (h:i.Le j):∀ s,le (g16 i std s) (g16 j std s):=fun _=>z0u (w5v h _) (fun _=>le_refl _) (fun _=>z0c (le_refl _) (fun _=>z0k (le_refl _) (z0c (h _ _ _ _ _ (fun _=>le_refl _)) (fun _=>le_refl _))))
theorem v4o {i j:It} (h:i.Le j):∀ s,le (g62 i std s) (g62 j std s):=fun _=>z0u (w5v h _) (fun _=>z0k (le_refl _) (z0u (w5v h _) (fun _=>le_refl _) (fun _=>le_refl _))) (fun _=>z0c (le_refl _) (fun _=>z0k (le_refl _) (z0u (w5v h _) (fun _=>le_refl _) (fun _=>le_refl _))))
theorem mg21 {i j:It} (h:i.Le j):∀ s,le (g21 i std s) (g21 j std s):=fun _=>z0u (w5v h _) (fun _=>z0k (le_refl _) (z0a (z0c (w8j h _) (fun _=>le_refl _)))) (fun _=>z0c (le_refl _) (fun _=>z0k (le_refl _) (z0a (z0c (w8j h _) (fun _=>z0k (le_refl _) (z0c (v4p h _) (fun _=>le_refl _)))))))
theorem v0j {i j:It} (h:i.Le j):∀ s,le (w70 i std s) (w70 j std s):=fun _=>z0z (z0k (z0a (z0a (z0c (v4p h _) (fun _=>le_refl _)))) (le_refl _))
theorem v0k {i j:It} (h:i.Le j):∀ s,le (w71 i std s) (w71 j std s):=fun _=>z0z (z0k (z0a (z0a (z0c (v4p h _) (fun _=>le_refl _)))) (le_refl _))
theorem mg23 {i j:It} (h:i.Le j):∀ s,le (g23 i std s) (g23 j std s):=fun _=>z0u (w5v h _) (fun _=>z0u (z0z (z0k (le_refl _) (z0c (le_refl _) (fun _=>z0u (z0z (z0k (le_refl _) (z0c (w8j h _) (fun _=>le_refl _)))) (fun _=>le_refl _) (fun _=>le_refl _))))) (fun _=>le_refl _) (fun _=>z0u (le_refl _) (fun _=>z0c (w8h h _) (fun _=>z0c (w8i h _) (fun _=>le_refl _))) (fun _=>z0c (le_refl _) (fun _=>z0c (w8h h _) (fun _=>z0c (w8i h _) (fun _=>z0u (h _ _ _ _ _ (v0k h)) (fun _=>le_refl _) (fun _=>le_refl _))))))) (fun _=>z0c (le_refl _) (fun _=>z0u (z0z (z0k (le_refl _) (z0c (le_refl _) (fun _=>z0u (z0z (z0k (le_refl _) (z0c (w8j h _) (fun _=>le_refl _)))) (fun _=>le_refl _) (fun _=>le_refl _))))) (fun _=>le_refl _) (fun _=>z0u (le_refl _) (fun _=>z0c (w8h h _) (fun _=>z0c (w8i h _) (fun _=>le_refl _))) (fun _=>z0c (le_refl _) (fun _=>z0c (w8h h _) (fun _=>z0c (w8i h _) (fun _=>z0u (h _ _ _ _ _ (v0j h)) (fun _=>le_refl _) (fun _=>le_refl _))))))))
theorem v9q {i j:It} (h:i.Le j):∀ s,le (g32 i std s) (g32 j std s):=fun _=>z0u (v4o h _) (fun _=>le_refl _) (fun _=>z0u (le_refl _) (fun _=>le_refl _) (fun _=>z0u (le_refl _) (fun _=>le_refl _) (fun _=>z0c (le_refl _) (fun _=>z0k (le_refl _) (z0c (v5q h _) (fun _=>le_refl _))))))
theorem v0b {i j:It} (h:i.Le j):∀ s,le (w7s i std s) (w7s j std s):=fun _=>z0z (z0k (z0a (z0a (z0u (h _ _ _ _ _ (fun _=>le_refl _)) (fun _=>le_refl _) (fun _=>le_refl _)))) (le_refl _))
theorem v0c {i j:It} (h:i.Le j):∀ s,le (w7t i std s) (w7t j std s):=fun _=>z0z (z0k (z0a (z0a (z0c (v5q h _) (fun _=>le_refl _)))) (le_refl _))
theorem v0d {i j:It} (h:i.Le j):∀ s,le (w7u i std s) (w7u j std s):=fun _=>z0z (z0k (z0a (z0a (z0a (z0a (z0a (z0a (z0a (z0c (h _ _ _ _ _ (v0c h)) (fun _=>le_refl _))))))))) (le_refl _))
theorem v0e {i j:It} (h:i.Le j):∀ s,le (w7v i std s) (w7v j std s):=fun _=>z0z (z0k (z0u (z0z (z0a (z0a (z0u (w5v h _) (fun _=>le_refl _) (fun _=>le_refl _))))) (fun _=>le_refl _) (fun _=>le_refl _)) (le_refl _))
theorem mg27 {i j:It} (h:i.Le j):∀ s,le (g27 i std s) (g27 j std s):=fun _=>z0k (le_refl _) (z0u (h _ _ _ _ _ (v0e h)) (fun _=>le_refl _) (fun _=>z0c (le_refl _) (fun _=>z0a (z0a (z0a (z0a (z0c (h _ _ _ _ _ (v0d h)) (fun _=>z0a (z0a (z0u (h _ _ _ _ _ (v0b h)) (fun _=>le_refl _) (fun _=>le_refl _)))))))))))
theorem w5u {i j:It} (h:i.Le j):∀ s,le (w8m i std s) (w8m j std s):=fun _=>z0a (z0c (h _ _ _ _ _ (fun _=>le_refl _)) (fun _=>le_refl _))
theorem v9p {i j:It} (h:i.Le j):∀ s,le (g39 i std s) (g39 j std s):=fun _=>z0u (v4o h _) (fun _=>le_refl _) (fun _=>z0u (le_refl _) (fun _=>le_refl _) (fun _=>z0u (le_refl _) (fun _=>z0u (z0z (z0k (le_refl _) (z0k (le_refl _) (z0c (le_refl _) (fun _=>z0c (le_refl _) (fun _=>z0k (le_refl _) (z0c (le_refl _) (fun _=>z0k (le_refl _) (z0k (le_refl _) (z0u (z0z (z0k (le_refl _) (z0c (w5u h _) (fun _=>le_refl _)))) (fun _=>le_refl _) (fun _=>le_refl _))))))))))) (fun _=>le_refl _) (fun _=>le_refl _)) (fun _=>z0c (le_refl _) (fun _=>z0u (z0z (z0k (le_refl _) (z0k (le_refl _) (z0c (le_refl _) (fun _=>z0c (le_refl _) (fun _=>z0k (le_refl _) (z0c (le_refl _) (fun _=>z0k (le_refl _) (z0k (le_refl _) (z0u (z0z (z0k (le_refl _) (z0c (w5u h _) (fun _=>z0k (le_refl _) (z0c (w5u h _) (fun _=>le_refl _)))))) (fun _=>le_refl _) (fun _=>le_refl _))))))))))) (fun _=>le_refl _) (fun _=>le_refl _)))))
theorem w97 {i j:It} (h:i.Le j):∀ s,le (w7o i std s) (w7o j std s):=fun _=>z0z (z0k (z0a (z0a (z0a (z0a (z0a (z0k (le_refl _) (z0c (mg76 h _) (fun _=>le_refl _)))))))) (le_refl _))
theorem w98 {i j:It} (h:i.Le j):∀ s,le (w7p i std s) (w7p j std s):=fun _=>z0z (z0k (z0a (z0a (z0a (z0a (z0a (z0k (le_refl _) (z0u (z0z (z0u (h _ _ _ _ _ (w97 h)) (fun _=>le_refl _) (fun _=>le_refl _))) (fun _=>le_refl _) (fun _=>le_refl _)))))))) (le_refl _))
theorem w99 {i j:It} (h:i.Le j):∀ s,le (w7q i std s) (w7q j std s):=fun _=>z0z (z0k (z0a (z0a (z0c (v4p h _) (fun _=>le_refl _)))) (le_refl _))
theorem v0a {i j:It} (h:i.Le j):∀ s,le (w7r i std s) (w7r j std s):=fun _=>z0z (z0k (z0c (le_refl _) (fun _=>z0u (h _ _ _ _ _ (w99 h)) (fun _=>le_refl _) (fun _=>le_refl _))) (le_refl _))
theorem mg37 {i j:It} (h:i.Le j):∀ s,le (g37 i std s) (g37 j std s):=fun _=>z0u (v4o h _) (fun _=>le_refl _) (fun _=>z0u (le_refl _) (fun _=>le_refl _) (fun _=>z0u (le_refl _) (fun _=>le_refl _) (fun _=>z0c (le_refl _) (fun _=>z0k (le_refl _) (z0u (h _ _ _ _ _ (v0a h)) (fun _=>le_refl _) (fun _=>z0c (le_refl _) (fun _=>z0u (z0z (z0u (h _ _ _ _ _ (w98 h)) (fun _=>le_refl _) (fun _=>le_refl _))) (fun _=>le_refl _) (fun _=>le_refl _))))))))
theorem mg69 {i j:It} (h:i.Le j):∀ s,le (g69 i std s) (g69 j std s):=fun _=>z0k (le_refl _) (z0a (z0a (z0c (h _ _ _ _ _ (fun _=>le_refl _)) (fun _=>le_refl _))))
theorem v0f {i j:It} (h:i.Le j):∀ s,le (w7w i std s) (w7w j std s):=fun _=>z0z (z0k (z0a (z0a (z0a (z0a (z0a (z0k (le_refl _) (z0c (mg68 h _) (fun _=>le_refl _)))))))) (le_refl _))
theorem v0g {i j:It} (h:i.Le j):∀ s,le (w7x i std s) (w7x j std s):=fun _=>z0z (z0k (z0a (z0a (z0c (v9m h _) (fun _=>le_refl _)))) (le_refl _))
theorem v0h {i j:It} (h:i.Le j):∀ s,le (w7y i std s) (w7y j std s):=fun _=>z0z (z0k (z0a (z0a (z0c (h _ _ _ _ _ (v0g h)) (fun _=>z0c (z0z (z0u (h _ _ _ _ _ (v0f h)) (fun _=>le_refl _) (fun _=>le_refl _))) (fun _=>le_refl _))))) (le_refl _))
theorem v0i {i j:It} (h:i.Le j):∀ s,le (w7z i std s) (w7z j std s):=fun _=>z0z (z0k (z0c (le_refl _) (fun _=>z0c (h _ _ _ _ _ (v0h h)) (fun _=>le_refl _))) (le_refl _))
theorem mg25 {i j:It} (h:i.Le j):∀ s,le (g25 i std s) (g25 j std s):=fun _=>z0u (v4o h _) (fun _=>le_refl _) (fun _=>z0u (le_refl _) (fun _=>le_refl _) (fun _=>z0u (le_refl _) (fun _=>le_refl _) (fun _=>z0c (le_refl _) (fun _=>z0k (le_refl _) (z0c (v5q h _) (fun _=>z0k (le_refl _) (z0a (z0c (h _ _ _ _ _ (v0i h)) (fun _=>z0c (mg69 h _) (fun _=>le_refl _))))))))))
theorem v9n {i j:It} (h:i.Le j):∀ s,le (g56 i std s) (g56 j std s):=fun _=>z0u (h _ _ _ _ _ (fun _=>le_refl _)) (fun _=>le_refl _) (fun _=>le_refl _)
theorem w92 {i j:It} (h:i.Le j):∀ s,le (w7k i std s) (w7k j std s):=fun _=>z0z (z0a (z0a (z0c (h _ _ _ _ _ (fun _=>le_refl _)) (fun _=>le_refl _))))
theorem v5r {i j:It} (h:i.Le j):∀ s,le (g61 i std s) (g61 j std s):=fun _=>z0a (z0c (h _ _ _ _ _ (fun _=>le_refl _)) (fun _=>z0a (z0c (h _ _ _ _ _ (w92 h)) (fun _=>le_refl _))))
theorem v0l {i j:It} (h:i.Le j):∀ s,le (x6s i std s) (x6s j std s):=fun _=>z0z (z0k (z0a (z0a (z0c (v9n h _) (fun _=>le_refl _)))) (le_refl _))
theorem v5s {i j:It} (h:i.Le j):∀ s,le (g19 i std s) (g19 j std s):=fun _=>z0c (le_refl _) (fun _=>z0k (le_refl _) (z0u (h _ _ _ _ _ (fun _=>le_refl _)) (fun _=>le_refl _) (fun _=>z0c (le_refl _) (fun _=>z0c (v9n h _) (fun _=>z0k (le_refl _) (z0u (h _ _ _ _ _ (v0l h)) (fun _=>le_refl _) (fun _=>le_refl _)))))))
theorem v9o {i j:It} (h:i.Le j):∀ s,le (g43 i std s) (g43 j std s):=fun _=>z0u (h _ _ _ _ _ (fun _=>le_refl _)) (fun _=>le_refl _) (fun _=>le_refl _)
theorem w93 {i j:It} (h:i.Le j):∀ s,le (w7l i std s) (w7l j std s):=fun _=>z0z (z0k (z0a (z0a (z0a (z0a (z0a (z0c (h _ _ _ _ _ (fun _=>le_refl _)) (fun _=>le_refl _))))))) (le_refl _))
theorem w94 {i j:It} (h:i.Le j):∀ s,le (w7m i std s) (w7m j std s):=fun _=>z0z (z0k (z0a (z0a (z0a (z0c (h _ _ _ _ _ (w93 h)) (fun _=>le_refl _))))) (le_refl _))
theorem w95 {i j:It} (h:i.Le j):∀ s,le (w7n i std s) (w7n j std s):=fun _=>z0z (z0k (z0a (z0a (z0c (v5r h _) (fun _=>z0a (z0a (z0a (z0c (h _ _ _ _ _ (w94 h)) (fun _=>z0c (v5r h _) (fun _=>le_refl _))))))))) (le_refl _))
theorem v4q {i j:It} (h:i.Le j):∀ s,le (g49 i std s) (g49 j std s):=fun _=>z0c (v5r h _) (fun _=>z0c (h _ _ _ _ _ (w95 h)) (fun _=>le_refl _))
theorem v4n {i j:It} (h:i.Le j):∀ s,le (g72 i std s) (g72 j std s):=fun _=>z0c (v5s h _) (fun _=>z0k (z0c (v5s h _) (fun _=>le_refl _)) (z0c (v5s h _) (fun _=>le_refl _)))
theorem mg36 {i j:It} (h:i.Le j):∀ s,le (g36 i std s) (g36 j std s):=fun _=>z0c (v4n h _) (fun _=>z0k (z0c (v4n h _) (fun _=>le_refl _)) (z0c (le_refl _) (fun _=>z0k (le_refl _) (z0c (v4q h _) (fun _=>z0c (v4q h _) (fun _=>z0u (h _ _ _ _ _ (fun _=>le_refl _)) (fun _=>le_refl _) (fun _=>z0c (le_refl _) (fun _=>z0u (h _ _ _ _ _ (fun _=>le_refl _)) (fun _=>le_refl _) (fun _=>le_refl _)))))))))
theorem mg38 {i j:It} (h:i.Le j):∀ s,le (g38 i std s) (g38 j std s):=fun _=>z0c (v4n h _) (fun _=>z0k (z0c (v4n h _) (fun _=>le_refl _)) (z0c (le_refl _) (fun _=>z0k (le_refl _) (z0c (v4q h _) (fun _=>z0c (v9o h _) (fun _=>z0k (le_refl _) (z0c (v4q h _) (fun _=>z0c (v9o h _) (fun _=>le_refl _)))))))))
theorem mg15 {i j:It} (h:i.Le j):∀ s,le (g15 i std s) (g15 j std s):=fun _=>z0a (z0a (z0a (z0a (z0a (z0a (z0a (z0a (z0a (z0a (z0a (z0a (z0a (z0a (z0a (z0a (z0c (mg16 h _) (fun _=>z0a (z0a (z0c (mg21 h _) (fun _=>z0a (z0c (mg23 h _) (fun _=>z0a (z0c (v9p h _) (fun _=>z0a (z0c (v9p h _) (fun _=>z0a (z0c (v9q h _) (fun _=>z0a (z0c (v9q h _) (fun _=>z0a (z0c (mg37 h _) (fun _=>z0a (z0c (mg25 h _) (fun _=>z0a (z0c (mg27 h _) (fun _=>z0c (le_refl _) (fun _=>z0k (le_refl _) (z0a (z0c (mg20 h _) (fun _=>z0k (z0k (z0k (z0a (z0c (mg36 h _) (fun _=>z0k (z0a (z0c (mg38 h _) (fun _=>le_refl _))) (le_refl _)))) (le_refl _)) (le_refl _)) (le_refl _)))))))))))))))))))))))))))))))))))))))))
end Go.Am
end
section
namespace Go.Am
theorem v1n:g15 (itN 200) std ()=some (true,()):=by kernel_rfl
theorem x1e:G15 std ()=some (true,()):=mg15 (v1c 200) () _ v1n
end Go.Am
end
section
namespace Go.Am
open M06
def x0e (l:List Pt) (hs:List (List Pt)):Prop:=¬ y0t l hs∧x1h l hs=0
instance (l:List Pt) (hs:List (List Pt)):Decidable (x0e l hs):=by unfold x0e; infer_instance
theorem x0d {l:List Pt} {hs:List (List Pt)}:x0e l hs↔y0a l hs:=by
 unfold x0e
 rw [z87]
 refine ⟨fun h=>h.2,fun h=>⟨?_,h⟩⟩
 rintro (k|k|⟨x,hx,k⟩)
 ·have:=h.many.2; omega
 ·have:=h.few; omega
 ·have:=(h.manyH x hx).2; omega
instance (l:List Pt) (hs:List (List Pt)):Decidable (y0a l hs):=decidable_of_iff _ x0d
theorem w4v (l:List Pt) (hs:List (List Pt)):G29 std (z0d l,z19 hs,())=some (decide (y0a l hs),()):=by
 unfold G29
 have h14:v73 it0 std (z0d l,z19 hs,())=some (decide (y0t l hs),()):=v30 l hs
 have h19:g19 it0 std (z0d l,z19 hs,())=some (x1h l hs,()):=v3z l hs
 have e:decide (y0a l hs)=decide (x0e l hs):=by rw [decide_eq_decide]; exact x0d.symm
 rw [e]
 by_cases hg:y0t l hs
 ·have:¬ x0e l hs:=fun h=>h.1 hg
  simp only [g29,z1a,z1b,h14,hg,this]
 ·by_cases hc:x1h l hs=0
  ·have:x0e l hs:=⟨hg,hc⟩
   simp only [g29,z1a,z1b,h14,h19,hg,hc,this]
  ·have:¬ x0e l hs:=fun h=>hc h.2
   simp only [g29,z1a,z1b,h14,h19,hg,hc,this]
instance (p:Pt):Decidable (Big p):=by unfold Big; infer_instance
end Go.Am
end
section
namespace M06
def v3r (a b:List Pt) (w:Pt):Prop:=∀ p∈a,∀ q∈b,dt w p<dt w q
end M06
end
section
namespace Go.Am
open M06
def v1d (A B C:Int):Prop:=¬ (A=0∧B=0)∧ -1048576≤A∧A≤1048576∧ -1048576≤B∧B≤1048576∧ -1099511627776≤C∧C≤1099511627776
instance (A B C:Int):Decidable (v1d A B C):=by unfold v1d; infer_instance
def okL (a b:List Pt) (A B C:Int):Prop:=(∀ p∈a,dt (A,B) p≤C)∧∀ q∈b,C<dt (A,B) q
instance (a b:List Pt) (A B C:Int):Decidable (okL a b A B C):=by unfold okL; infer_instance
end Go.Am
end
section
namespace Go.Am
open M06
def v3t (P e Q f:Pt):Prop:=
 (0<crs e f∧0≤crs (sb Q P) f∧crs (sb Q P) f≤crs e f∧0≤crs (sb Q P) e∧crs (sb Q P) e≤crs e f)∨
 (0< - crs e f∧0≤ - crs (sb Q P) f∧ - crs (sb Q P) f≤ - crs e f∧0≤ - crs (sb Q P) e∧ - crs (sb Q P) e≤ - crs e f)
instance (P e Q f:Pt):Decidable (v3t P e Q f):=by unfold v3t; infer_instance
end Go.Am
end
section
namespace Go.Am
open M06
def fr (n d:Nat):Pt:=(((n / Nat.gcd n d:Nat):Int),((d / Nat.gcd n d:Nat):Int))
end Go.Am
end
section
namespace Go.Am
open M06
def Frc (x:Pt):Prop:=∃ n d:Nat,0<d∧n≤1152921504606846976∧d<1125899906842624∧x=fr n d
theorem Frc.nat {x:Pt} (h:Frc x):∃ n d:Nat,0<d∧n≤1152921504606846976∧d<1125899906842624∧x=((n:Int),(d:Int)):=by
 obtain ⟨n,d,h1,h2,h3,rfl⟩:=h
 have hg:=Nat.gcd_pos_of_pos_right n h1
 have h4:=Nat.div_pos (Nat.le_of_dvd h1 (Nat.gcd_dvd_right n d)) hg
 have h5:=Nat.div_le_self n (Nat.gcd n d)
 have h6:=Nat.div_le_self d (Nat.gcd n d)
 exact ⟨n / Nat.gcd n d,d / Nat.gcd n d,h4,by omega,by omega,rfl⟩
theorem Frc.den {x:Pt} (h:Frc x):0<x.2:=by
 obtain ⟨n,d,h1,_,_,rfl⟩:=h.nat
 simp only; omega
end Go.Am
end
section
namespace Go.Am
open M06
theorem v4y {a b:Int} (h:(0≤a∧a≤b)∨(b≤a∧a≤0)):a*a≤b*b:=by
 rcases h with ⟨h1,h2⟩|⟨h1,h2⟩
 ·exact Int.mul_le_mul h2 h2 h1 (by omega)
 ·have:=Int.mul_le_mul (a:= -a) (b:= -a) (c:= -b) (d:= -b) (by omega) (by omega) (by omega) (by omega)
  rw [Int.neg_mul_neg,Int.neg_mul_neg] at this; exact this
theorem x85 (a b:Pt):far a b=dt (sb b a) (sb b a):=by simp only [far,dt,sb]; grind
end Go.Am
end
section
namespace Go.Am
open M06
theorem face_nx {S:List Pt} {d a b:Pt} (h:y8p S d a b) (hne:a≠b) (hd:d≠(0,0)):Nx S a b:=by
 have hdd:=z11 hd
 have hb:=(h.on b h.inb h.par).1
 have hpos:0<dt d (sb b a):=by
  rcases Int.lt_or_le 0 (dt d (sb b a)) with k|k
  ·exact k
  ·exact absurd (z4h.1 (y4r hd h.par (by omega))).symm hne
 have hs:z7d d (sb b a):=⟨h.par,hpos⟩
 refine ⟨h.inb,hne,fun x hx=>?_⟩
 obtain ⟨m1,m2⟩:=hs.mul (sb x a)
 have hl:=h.left x hx
 refine ⟨?_,fun h0=>?_⟩
 ·show 0≤crs (sb b a) (sb x a)
  have:=Int.mul_nonneg (Int.le_of_lt hpos) hl
  rw [←m1] at this
  rcases Int.lt_or_le (crs (sb b a) (sb x a)) 0 with k|k
  ·have:=Int.mul_pos hdd (show 0< - crs (sb b a) (sb x a) by omega)
   rw [Int.mul_neg] at this; omega
  ·exact k
 ·have h0':crs (sb b a) (sb x a)=0:=h0
  rw [h0',Int.mul_zero] at m1
  have hz:crs d (sb x a)=0:=by
   rcases Int.mul_eq_zero.1 m1.symm with k|k
   ·omega
   ·exact k
  obtain ⟨o1,o2⟩:=h.on x hx hz
  refine ⟨?_,?_⟩
  ·have:=Int.mul_nonneg (Int.le_of_lt hpos) o1
   rw [←m2] at this
   rcases Int.lt_or_le (dt (sb b a) (sb x a)) 0 with k|k
   ·have:=Int.mul_pos hdd (show 0< - dt (sb b a) (sb x a) by omega)
    rw [Int.mul_neg] at this; omega
   ·exact k
  ·rw [x85,x85]
   have l1:=lag d (sb x a)
   have l2:=lag d (sb b a)
   rw [hz] at l1
   rw [h.par] at l2
   have e:dt d (sb b x)=dt d (sb b a) - dt d (sb x a):=by simp only [dt,sb]; grind
   have:=v4y (.inl ⟨o1,show dt d (sb x a)≤dt d (sb b a) by omega⟩)
   have:dt d d*dt (sb x a) (sb x a)≤dt d d*dt (sb b a) (sb b a):=by omega
   exact Int.le_of_mul_le_mul_left this hdd
end Go.Am
end
section
namespace Go.Am
section
variable {κ ν:Type} [DecidableEq κ]
end
structure v3u (κ ν:Type) where
 ke:κ→D
 ve:ν→D
 ks:List SK
 ka:Bool
 va:Bool
 ck:List CK
structure v3u.Ok {κ ν:Type} [DecidableEq κ] (E:v3u κ ν):Prop where
 agg:∀ k,z1q (E.ke k)=E.ka
 kinds:∀ k,z1c E.ks (z0x (E.ke k))=true
 eq:∀ a b,z7t E.ks (z0x (E.ke a)) (z0x (E.ke b))=some (decide (a=b))
 vagg:∀ v,z1q (E.ve v)=E.va
 vok:∀ v,z3b E.ck (z0x (E.ve v))=true
def v3u.enc {κ ν:Type} (E:v3u κ ν) (m:List (κ×ν)):List (D×D):=m.map fun e=>(E.ke e.1,E.ve e.2)
section
variable {κ ν:Type} [DecidableEq κ] {E:v3u κ ν} (h:E.Ok)
include h
end
end Go.Am
end
section
namespace Go.Am
open M06
theorem w0x {n:Int} (h:(Lit.int IntKind.u8 n).wf=true):0≤n∧n≤255:=by
 have h:IntKind.u8.min≤n∧n≤IntKind.u8.max:=by simpa [Lit.wf] using h
 have e1:IntKind.u8.min=0:=rfl
 have e2:IntKind.u8.max=255:=rfl
 omega
theorem InH.trans {S T:List Pt} {p:Pt} {k:Int} (hk:0≤k) (h:InH S p k) (hs:∀ x∈S,InH T x 1):InH T p k:=by
 intro d
 obtain ⟨x,hx,h0⟩:=h d
 obtain ⟨y,hy,h1⟩:=hs x hx d
 refine ⟨y,hy,?_⟩
 rw [v41 p x y k d]
 have e:crs d (sb x (ml y 1))=crs d (sb x y):=by simp [ml]
 rw [e] at h1
 have:=Int.mul_nonneg hk h1
 omega
end Go.Am
end
section
namespace Go.Am
open M06
theorem x44 (w:Pt) (A B:List Pt):z5e (A.map (ad w)) B=(z5e A B).map (ad w):=by
 unfold z5e
 induction A with
 |nil=>rfl
 |cons x A ih=>
  rw [List.map_cons,List.flatMap_cons,List.flatMap_cons,List.map_append,ih,List.map_map]
  congr 1
  refine List.map_congr_left fun y _=>?_
  simp only [Function.comp,ad]
  exact Prod.ext (by simp only; omega) (by simp only; omega)
theorem x09 (w:Pt):∀ (hs:List (List Pt)) (l:List Pt),z37 (l.map (ad w)) hs=(z37 l hs).map (ad w)
 |[],l=>rfl
 |h::hs,l=>by
  show z37 (z5e (l.map (ad w)) h) hs=(z37 (z5e l h) hs).map (ad w)
  rw [x44,x09 w hs]
theorem y98 {n:Int} (h:(Lit.int IntKind.i16 n).wf=true): -32768≤n∧n≤32767:=by
 simp [Lit.wf,IntKind.min,IntKind.max,IntKind.signed,IntKind.bits] at h; omega
end Go.Am
end
section
namespace M06
def rot {α:Type} (k:Nat) (l:List α):List α:=l.drop (k % l.length)++l.take (k % l.length)
theorem z4l {α:Type} (k:Nat) (l:List α):(rot k l).length=l.length:=by
 rw [rot,List.length_append,List.length_drop,List.length_take]
 by_cases h:l.length=0
 ·rw [h]; simp
 ·have:=Nat.mod_lt k (Nat.pos_of_ne_zero h); omega
theorem x7t {α:Type} (k:Nat) (l:List α) {i:Nat} (hi:i<l.length):(rot k l)[i]?=l[(i+k) % l.length]?:=by
 have hm:=Nat.mod_lt k (show 0<l.length by omega)
 have e:(i+k) % l.length=if i+k % l.length<l.length then i+k % l.length else i+k % l.length - l.length:=by
  rw [Nat.add_mod,Nat.mod_eq_of_lt hi]
  split
  ·rename_i h; exact Nat.mod_eq_of_lt h
  ·rename_i h
   rw [Nat.mod_eq_sub_mod (by omega),Nat.mod_eq_of_lt (by omega)]
 rw [rot,e]
 split
 ·rename_i h
  rw [List.getElem?_append_left (by rw [List.length_drop]; omega),List.getElem?_drop,Nat.add_comm]
 ·rename_i h
  rw [List.getElem?_append_right (by rw [List.length_drop]; omega),List.length_drop,List.getElem?_take_of_lt (by omega)]
  congr 1; omega
theorem y0l {α:Type} (k:Nat) (l:List α):(rot k l).Perm l:=by
 have h:=List.perm_append_comm (l₁:=l.drop (k % l.length)) (l₂:=l.take (k % l.length))
 rw [List.take_append_drop] at h
 exact h
def SE (A B:List Pt):Prop:=∀ p,p∈A↔p∈B
theorem x1r {A A' B B':List Pt} (h:SE A A') (h':SE B B'):SE (z5e A B) (z5e A' B'):=fun p=>by
 rw [z33,z33]
 exact ⟨fun ⟨x,hx,y,hy,e⟩=>⟨x,(h x).1 hx,y,(h' y).1 hy,e⟩,fun ⟨x,hx,y,hy,e⟩=>⟨x,(h x).2 hx,y,(h' y).2 hy,e⟩⟩
theorem x43 (A B C:List Pt):SE (z5e (z5e A B) C) (z5e (z5e A C) B):=by
 have key:∀ B C p,p∈z5e (z5e A B) C→p∈z5e (z5e A C) B:=fun B C p hp=>by
  obtain ⟨z,hz,c,hc,rfl⟩:=(z33 p).1 hp
  obtain ⟨a,ha,b,hb,rfl⟩:=(z33 z).1 hz
  refine (z33 _).2 ⟨ad a c,(z33 _).2 ⟨a,ha,c,hc,rfl⟩,b,hb,?_⟩
  simp only [ad]
  exact Prod.ext (by simp only; omega) (by simp only; omega)
 exact fun p=>⟨key B C p,key C B p⟩
theorem y8i {f:List Pt→List Pt}:∀ (hs:List (List Pt)) (l l':List Pt),SE l l'→(∀ h∈hs,SE h (f h))→SE (z37 l hs) (z37 l' (hs.map f))
 |[],l,l',h,_=>h
 |k::hs,l,l',h,hk=>y8i hs (z5e l k) (z5e l' (f k)) (x1r h (hk k (by simp))) fun x hx=>hk x (List.mem_cons_of_mem _ hx)
theorem x6v (hs:List (List Pt)) {l l':List Pt} (h:SE l l'):SE (z37 l hs) (z37 l' hs):=by
 have:=y8i (f:=id) hs l l' h fun _ _ _=>Iff.rfl
 rwa [List.map_id] at this
theorem w0d {hs hs':List (List Pt)} (h:hs.Perm hs'):∀ l,SE (z37 l hs) (z37 l hs'):=by
 induction h with
 |nil=>exact fun l p=>Iff.rfl
 |cons x _ ih=>exact fun l=>ih (z5e l x)
 |swap x y hs=>exact fun l=>x6v hs (x43 l y x)
 |trans _ _ ih1 ih2=>exact fun l p=>(ih1 l p).trans (ih2 l p)
theorem x6j {S T:List Pt} (hS:S≠[]) (h:SE S T):z6f T=z6f S:=y79 (x9g (z8k hS) fun x=>(h x).symm)
theorem x7r (w a b:Pt):sb (ad w a) (ad w b)=sb a b:=by
 simp only [sb,ad]
 exact Prod.ext (by simp only; omega) (by simp only; omega)
theorem w4n {w a b:Pt} (h:ad w a=ad w b):a=b:=by
 have h1:=congrArg Prod.fst h
 have h2:=congrArg Prod.snd h
 simp only [ad] at h1 h2
 exact Prod.ext (by omega) (by omega)
theorem w5j {S:List Pt} {a b:Pt} (w:Pt) (h:Nx S a b):Nx (S.map (ad w)) (ad w a) (ad w b):=by
 refine ⟨List.mem_map.2 ⟨b,h.1,rfl⟩,fun e=>h.2.1 (w4n e),fun x hx=>?_⟩
 obtain ⟨y,hy,rfl⟩:=List.mem_map.1 hx
 have:=h.2.2 y hy
 simp only [cr,far,x7r] at this⊢
 exact this
theorem x3i {S:List Pt} (w:Pt):∀ (l:List Pt),Pth S l→Pth (S.map (ad w)) (l.map (ad w))
 |[],_=>trivial
 |[_],_=>trivial
 |a::b::l,h=>⟨w5j w h.1,x3i w (b::l) h.2⟩
theorem w2p {S c:List Pt} (w:Pt) (h:Cyc S c):Cyc (S.map (ad w)) (c.map (ad w)):=by
 match c,h with
 |c0::r,h=>
  refine ⟨List.mem_map.2 ⟨c0,h.1,rfl⟩,fun x hx=>?_,?_⟩
  ·obtain ⟨y,hy,rfl⟩:=List.mem_map.1 hx
   rcases h.2.1 y hy with e|e
   ·exact .inl (by rw [e])
   ·exact .inr (by unfold Lt at e⊢; rw [x7r]; exact e)
  ·rcases h.2.2 with ⟨e,h1⟩|⟨e,h1,h2⟩
   ·refine .inl ⟨by rw [e]; rfl,fun x hx=>?_⟩
    obtain ⟨y,hy,rfl⟩:=List.mem_map.1 hx
    rw [h1 y hy]
   ·refine .inr ⟨fun e'=>e (List.map_eq_nil_iff.1 e'),?_,fun hm=>?_⟩
    ·have:=x3i w _ h1
     simpa using this
    ·obtain ⟨y,hy,e'⟩:=List.mem_map.1 hm
     rw [w4n e'] at hy
     exact h2 hy
theorem x90 {S:List Pt} (hS:S≠[]) (w:Pt):z6f (S.map (ad w))=(z6f S).map (ad w):=y79 (w2p w (z8k hS))
end M06
end
noncomputable section
namespace Go.Am
def y6m:Ctr:=
 ⟨30,[.list 2, .int .i64],[],[(.ret,⟨[(0, .vec 0 2)],[.row [ci,ci]],1⟩)]⟩
def v5y:List LA:=
 [⟨30,[false,true,false,true,true],0,⟨⟨[(0, .list 2),(1, .int .i64),(5, .vec 0 2),(6, .int .i64)],[.row [ci,ci]],26⟩,[((AX.exit 0),⟨[(5, .vec 0 2)],[.row [ci,ci]],26⟩)]⟩⟩]
def v59:List JA:=
 []
def w35:List CF:=
 []
def v8t:Anns:=
 ⟨w35,v59,[]⟩
def x04 (p:Prim):(LD×(LD×T3))→Option ((LD×(LD×T3))⊕(LD×Unit)):=
 fun a=>opt.run _ (
 opt.ask _ (p.cmp .lss a.2.2.2.1 (p.ofNat (p.len a.2.1))) (
 opt.need _ (p.cmp .neq (p.ofNat (p.len a.2.1)) (0:Int))<|
 opt.need _ (p.rowOk a.2.1 (p.nat (p.ar .rem .i64 (p.ar .add .i64 a.2.2.2.1 a.2.2.1) (p.ofNat (p.len a.2.1)))) [ci,ci])<|
 opt.need _ (p.cmp .geq (p.ar .rem .i64 (p.ar .add .i64 a.2.2.2.1 a.2.2.1) (p.ofNat (p.len a.2.1))) (0:Int))<|
 opt.need _ (p.and (p.leN (p.add 0 1) (p.len [[(D.int .i64 (p.rdI a.2.1 (p.nat (p.ar .rem .i64 (p.ar .add .i64 a.2.2.2.1 a.2.2.1) (p.ofNat (p.len a.2.1)))) 0)),(D.int .i64 (p.rdI a.2.1 (p.nat (p.ar .rem .i64 (p.ar .add .i64 a.2.2.2.1 a.2.2.1) (p.ofNat (p.len a.2.1)))) 1))]])) (p.and (p.leN (p.add 0 (p.len a.1)) (p.len a.1)) (p.and (p.leN 1 1) (p.leN (p.add (p.len a.1) 1) 1000000))))<|
 opt.need _ (p.eqN 0 0)<|
 opt.need _ (p.eqN (p.add (p.len a.1) 1) (p.len (p.app (p.cut a.1 0 (p.len a.1)) (p.cut [[(D.int .i64 (p.rdI a.2.1 (p.nat (p.ar .rem .i64 (p.ar .add .i64 a.2.2.2.1 a.2.2.1) (p.ofNat (p.len a.2.1)))) 0)),(D.int .i64 (p.rdI a.2.1 (p.nat (p.ar .rem .i64 (p.ar .add .i64 a.2.2.2.1 a.2.2.1) (p.ofNat (p.len a.2.1)))) 1))]] 0 1))))<|
 opt.ret _ (Sum.inl ((p.app (p.cut a.1 0 (p.len a.1)) (p.cut [[(D.int .i64 (p.rdI a.2.1 (p.nat (p.ar .rem .i64 (p.ar .add .i64 a.2.2.2.1 a.2.2.1) (p.ofNat (p.len a.2.1)))) 0)),(D.int .i64 (p.rdI a.2.1 (p.nat (p.ar .rem .i64 (p.ar .add .i64 a.2.2.2.1 a.2.2.1) (p.ofNat (p.len a.2.1)))) 1))]] 0 1)),(a.2.1,(a.2.2.1,((p.ar .add .i64 a.2.2.2.1 (1:Int)),())))))) (
 opt.need _ (p.eqN 0 0)<|
 opt.need _ (p.eqN (p.len a.1) (p.len a.1))<|
 opt.ret _ (Sum.inr (a.1,()))))
def v3y:(p:Prim)→(LD×T1)→Option ((LD×Unit)):=
 fun p x=>
 opt.bnd ((LD×Unit)) _ (
 z5k (x04 p) ([],(x.1,(x.2.1,((0:Int),()))))) fun a=>
 opt.need _ (p.eqN 0 0)<|
 opt.need _ (p.eqN (p.len a.1) (p.len a.1))<|
 opt.ret _ (a.1,())
def v91:Prim→Tup (y6m).scs→Option (STup (scss (y6m).outs)):=
 fun p x=>v3y p x
theorem v8a (p:Prim) (x:Tup (y6m).scs):bodyRun opt p (z7x [] Go.Proofs.Try.prog) (mkOrc opt p (z7x [] Go.Proofs.Try.prog) 400 (v8t) v5y) 400 y6m x=v3y p x:=by kernel_rfl
theorem v1e:GamOk Go.Proofs.Try.prog w35:=fun cf h=>by cases h
theorem x9b:z2m Go.Proofs.Try.prog 30:=enters_auto (b:=_) rfl (by kernel_rfl)
theorem v5e:CtrOk Go.Proofs.Try.prog y6m (v91 std):=ctr_of_body (z4s follows_mixed) (mkOrc_ok (z4s follows_mixed) v1e _) x9b (fun x=>v8a std x)
def y1x:Ctr:=
 ⟨30,[.list 2, .int .i64],[],[(.ret,⟨[(0, .list 2)],[],1⟩)]⟩
def v0r:List LA:=
 [⟨30,[false,true,false,true,true],0,⟨⟨[(0, .list 2),(1, .int .i64),(5, .vec 0 2),(6, .int .i64)],[.row [ci,ci]],26⟩,[((AX.exit 0),⟨[(5, .vec 0 2)],[.row [ci,ci]],26⟩)]⟩⟩]
def v02:List JA:=
 []
def x8o:List CF:=
 []
def v3i:Anns:=
 ⟨x8o,v02,[]⟩
def x99 (p:Prim):(LD×(LD×T3))→Option ((LD×(LD×T3))⊕(LD×Unit)):=
 fun a=>opt.run _ (
 opt.ask _ (p.cmp .lss a.2.2.2.1 (p.ofNat (p.len a.2.1))) (
 opt.need _ (p.cmp .neq (p.ofNat (p.len a.2.1)) (0:Int))<|
 opt.need _ (p.rowOk a.2.1 (p.nat (p.ar .rem .i64 (p.ar .add .i64 a.2.2.2.1 a.2.2.1) (p.ofNat (p.len a.2.1)))) [ci,ci])<|
 opt.need _ (p.cmp .geq (p.ar .rem .i64 (p.ar .add .i64 a.2.2.2.1 a.2.2.1) (p.ofNat (p.len a.2.1))) (0:Int))<|
 opt.need _ (p.and (p.leN (p.add 0 1) (p.len [[(D.int .i64 (p.rdI a.2.1 (p.nat (p.ar .rem .i64 (p.ar .add .i64 a.2.2.2.1 a.2.2.1) (p.ofNat (p.len a.2.1)))) 0)),(D.int .i64 (p.rdI a.2.1 (p.nat (p.ar .rem .i64 (p.ar .add .i64 a.2.2.2.1 a.2.2.1) (p.ofNat (p.len a.2.1)))) 1))]])) (p.and (p.leN (p.add 0 (p.len a.1)) (p.len a.1)) (p.and (p.leN 1 1) (p.leN (p.add (p.len a.1) 1) 1000000))))<|
 opt.need _ (p.eqN 0 0)<|
 opt.need _ (p.eqN (p.add (p.len a.1) 1) (p.len (p.app (p.cut a.1 0 (p.len a.1)) (p.cut [[(D.int .i64 (p.rdI a.2.1 (p.nat (p.ar .rem .i64 (p.ar .add .i64 a.2.2.2.1 a.2.2.1) (p.ofNat (p.len a.2.1)))) 0)),(D.int .i64 (p.rdI a.2.1 (p.nat (p.ar .rem .i64 (p.ar .add .i64 a.2.2.2.1 a.2.2.1) (p.ofNat (p.len a.2.1)))) 1))]] 0 1))))<|
 opt.ret _ (Sum.inl ((p.app (p.cut a.1 0 (p.len a.1)) (p.cut [[(D.int .i64 (p.rdI a.2.1 (p.nat (p.ar .rem .i64 (p.ar .add .i64 a.2.2.2.1 a.2.2.1) (p.ofNat (p.len a.2.1)))) 0)),(D.int .i64 (p.rdI a.2.1 (p.nat (p.ar .rem .i64 (p.ar .add .i64 a.2.2.2.1 a.2.2.1) (p.ofNat (p.len a.2.1)))) 1))]] 0 1)),(a.2.1,(a.2.2.1,((p.ar .add .i64 a.2.2.2.1 (1:Int)),())))))) (
 opt.need _ (p.eqN 0 0)<|
 opt.need _ (p.eqN (p.len a.1) (p.len a.1))<|
 opt.ret _ (Sum.inr (a.1,()))))
def w0i:(p:Prim)→(LD×T1)→Option ((LD×Unit)):=
 fun p x=>
 opt.bnd ((LD×Unit)) _ (
 z5k (x99 p) ([],(x.1,(x.2.1,((0:Int),()))))) fun a=>
 opt.need _ (p.leN (p.add 0 (p.len a.1)) (p.len a.1))<|
 opt.ret _ ((p.cut a.1 0 (p.len a.1)),())
def v35:Prim→Tup (y1x).scs→Option (STup (scss (y1x).outs)):=
 fun p x=>w0i p x
theorem v1t (p:Prim) (x:Tup (y1x).scs):bodyRun opt p (z7x [] Go.Proofs.Try.prog) (mkOrc opt p (z7x [] Go.Proofs.Try.prog) 400 (v3i) v0r) 400 y1x x=w0i p x:=by kernel_rfl
theorem w6c:GamOk Go.Proofs.Try.prog x8o:=fun cf h=>by cases h
theorem x56:z2m Go.Proofs.Try.prog 30:=enters_auto (b:=_) rfl (by kernel_rfl)
theorem w86:CtrOk Go.Proofs.Try.prog y1x (v35 std):=ctr_of_body (z4s follows_mixed) (mkOrc_ok (z4s follows_mixed) w6c _) x56 (fun x=>v1t std x)
def v2j:Ctr:=
 ⟨6,[.agg [.list 2, .list 1], .int .i16, .int .i16, .int .u8],[],[(.ret,⟨[(0, .bool)],[],1⟩)]⟩
def la6:List LA:=
 [⟨6,[false,true,false,true,true,true,true,true,true],0,⟨⟨[(1, .int .i16),(2, .int .i16),(3, .int .u8),(4, .bptr 0 0),(9, .vec 1 2),(11, .bptr 2 0),(12, .int .i64)],[.box [.list 2, .list 1], .row [ci,ci], .box [.vec 3 2, .vec 4 1], .row [ci,ci], .row [(CK.list 2)]],169⟩,[((AX.exit 0),⟨[(1, .int .i16),(2, .int .i16),(4, .bptr 0 0),(9, .vec 1 2),(11, .bptr 2 0)],[.box [.list 2, .list 1], .row [ci,ci], .box [.vec 3 2, .vec 4 1], .row [ci,ci], .row [(CK.list 2)]],169⟩)]⟩⟩,
 ⟨6,[false,true,false,true,true,true,true,true,true,true,true,true,true,true],0,⟨⟨[(1, .int .i16),(2, .int .i16),(4, .bptr 0 0),(9, .vec 1 2),(15, .bptr 2 0),(16, .nils),(17, .int .i64)],[.box [.list 2, .list 1], .row [ci,ci], .box [.vec 3 2, .list 1], .row [ci,ci]],169⟩,[((AX.exit 2),⟨[(1, .int .i16),(2, .int .i16),(9, .vec 0 2),(15, .bptr 1 0),(16, .nils)],[.row [ci,ci], .box [.vec 2 2, .list 1], .row [ci,ci]],169⟩)]⟩⟩,
 ⟨6,[false,true,false,true,true,true,true,true,true,true,true,true,true,true,true],0,⟨⟨[(1, .int .i16),(2, .int .i16),(9, .vec 0 2),(15, .bptr 1 0),(16, .vec 3 2),(18, .int .i64)],[.row [ci,ci], .box [.vec 2 2, .list 1], .row [ci,ci], .row [ci,ci]],169⟩,[((AX.exit 4),⟨[(15, .bptr 0 0),(16, .vec 1 2)],[.box [.vec 2 2, .list 1], .row [ci,ci], .row [ci,ci]],169⟩)]⟩⟩]
def ja6:List JA:=
 [⟨6,[false,true,true,true,true,true,true,true,true,true,true,true,true,true,true,true],0,[(AX.normal,⟨[(8, .bool)],[],169⟩)]⟩,
 ⟨6,[false,false,true,true,true,true,true,true,true,true],0,[(AX.normal,⟨[(1, .int .i16),(2, .int .i16),(4, .bptr 0 0),(9, .vec 1 2),(89, .bool)],[.box [.list 2, .list 1], .row [ci,ci]],169⟩)]⟩,
 ⟨6,[true,false,true,true,true,true,true],0,[(AX.normal,⟨[(1, .int .i16),(2, .int .i16),(3, .int .u8),(4, .bptr 0 0),(9, .vec 1 2),(11, .bptr 2 0)],[.box [.list 2, .list 1], .row [ci,ci], .box [.vec 3 2, .nils], .row [ci,ci]],169⟩)]⟩]
def v7c:List CF:=
 [⟨y6m,v91⟩,⟨w7d,G16⟩,⟨v2s,G31⟩,⟨w7b,G20⟩,⟨y1x,v35⟩,⟨v2z,G15⟩,⟨v2t,G29⟩]
def an6:Anns:=
 ⟨v7c,ja6,[]⟩
def v3b (p:Prim):(LD×(LD×(LD×(LD×T5))))→Option ((LD×(LD×(LD×(LD×T5))))⊕(LD×(LD×(LD×Unit)))):=
 fun a=>opt.run _ (
 opt.ask _ (p.cmp .lss a.2.2.2.2.2.2.1 (p.ofNat (p.len a.1))) (
 opt.need _ (bif (p.cmp .geq a.2.2.2.2.2.2.1 (0:Int)) then (p.cmp .lss a.2.2.2.2.2.2.1 (p.ofNat (p.len a.1))) else Bool.false)<|
 opt.need _ (p.rowOk a.1 (p.add 0 (p.nat a.2.2.2.2.2.2.1)) [ci,ci])<|
 opt.need _ (bif (p.cmp .geq a.2.2.2.2.2.2.1 (0:Int)) then (p.cmp .lss a.2.2.2.2.2.2.1 (p.ofNat (p.len a.1))) else Bool.false)<|
 opt.need _ (p.rowOk a.1 (p.add 0 (p.nat a.2.2.2.2.2.2.1)) [ci,ci])<|
 opt.bnd T4 _ (G31 p ((p.ar .add .i64 (p.rdI a.1 (p.add 0 (p.nat a.2.2.2.2.2.2.1)) 0) (p.cvt .i64 a.2.2.2.2.1)),((p.ar .add .i64 (p.rdI a.1 (p.add 0 (p.nat a.2.2.2.2.2.2.1)) 1) (p.cvt .i64 a.2.2.2.2.2.1)),()))) fun b=>
 opt.need _ (p.and (p.leN (p.add 0 1) (p.len [[(D.int .i64 b.1),(D.int .i64 b.2.1)]])) (p.and (p.leN (p.add 0 (p.len a.2.2.1)) (p.len a.2.2.1)) (p.and (p.leN 1 1) (p.leN (p.add (p.len a.2.2.1) 1) 1000000))))<|
 opt.need _ (p.eqN 0 0)<|
 opt.need _ (p.eqN (p.len a.2.1) (p.len a.2.1))<|
 opt.need _ (p.eqN 0 0)<|
 opt.need _ (p.eqN (p.len a.1) (p.len a.1))<|
 opt.need _ (p.eqN 0 0)<|
 opt.need _ (p.eqN (p.add (p.len a.2.2.1) 1) (p.len (p.app (p.cut a.2.2.1 0 (p.len a.2.2.1)) (p.cut [[(D.int .i64 b.1),(D.int .i64 b.2.1)]] 0 1))))<|
 opt.ret _ (Sum.inl (a.1,(a.2.1,((p.app (p.cut a.2.2.1 0 (p.len a.2.2.1)) (p.cut [[(D.int .i64 b.1),(D.int .i64 b.2.1)]] 0 1)),(a.2.2.2.1,(a.2.2.2.2.1,(a.2.2.2.2.2.1,((p.ar .add .i64 a.2.2.2.2.2.2.1 (1:Int)),()))))))))) (
 opt.need _ (p.eqN 0 0)<|
 opt.need _ (p.eqN (p.len a.2.1) (p.len a.2.1))<|
 opt.need _ (p.eqN 0 0)<|
 opt.need _ (p.eqN (p.len a.2.2.1) (p.len a.2.2.1))<|
 opt.ret _ (Sum.inr (a.2.2.1,(a.2.1,(a.2.2.2.1,()))))))
def v3c (p:Prim):(LD×(LD×(LD×(LD×(LD×T5)))))→Option ((LD×(LD×(LD×(LD×(LD×T5)))))⊕(LD×(LD×(LD×T3)))):=
 fun a=>opt.run _ (
 opt.ask _ (p.cmp .lss a.2.2.2.2.2.2.2.1 (p.ofNat (p.len a.2.2.1))) (
 opt.need _ (p.rowOk a.2.2.1 (p.nat a.2.2.2.2.2.2.2.1) [ci,ci])<|
 opt.need _ (p.cmp .geq a.2.2.2.2.2.2.2.1 (0:Int))<|
 opt.need _ (p.rowOk a.2.2.1 (p.nat a.2.2.2.2.2.2.2.1) [ci,ci])<|
 opt.need _ (p.cmp .geq a.2.2.2.2.2.2.2.1 (0:Int))<|
 opt.bnd T4 _ (G31 p ((p.ar .add .i64 (p.rdI a.2.2.1 (p.nat a.2.2.2.2.2.2.2.1) 0) (p.cvt .i64 a.2.2.2.2.2.1)),((p.ar .add .i64 (p.rdI a.2.2.1 (p.nat a.2.2.2.2.2.2.2.1) 1) (p.cvt .i64 a.2.2.2.2.2.2.1)),()))) fun b=>
 opt.need _ (p.and (p.leN (p.add 0 1) (p.len [[(D.int .i64 b.1),(D.int .i64 b.2.1)]])) (p.and (p.leN (p.add 0 (p.len a.2.1)) (p.len a.2.1)) (p.and (p.leN 1 1) (p.leN (p.add (p.len a.2.1) 1) 1000000))))<|
 opt.need _ (p.eqN 0 0)<|
 opt.need _ (p.eqN (p.add (p.len a.2.1) 1) (p.len (p.app (p.cut a.2.1 0 (p.len a.2.1)) (p.cut [[(D.int .i64 b.1),(D.int .i64 b.2.1)]] 0 1))))<|
 opt.need _ (p.eqN 0 0)<|
 opt.need _ (p.eqN (p.len a.1) (p.len a.1))<|
 opt.ret _ (Sum.inl (a.1,((p.app (p.cut a.2.1 0 (p.len a.2.1)) (p.cut [[(D.int .i64 b.1),(D.int .i64 b.2.1)]] 0 1)),(a.2.2.1,(a.2.2.2.1,(a.2.2.2.2.1,(a.2.2.2.2.2.1,(a.2.2.2.2.2.2.1,((p.ar .add .i64 a.2.2.2.2.2.2.2.1 (1:Int)),())))))))))) (
 opt.need _ (p.eqN 0 0)<|
 opt.need _ (p.eqN (p.len a.2.1) (p.len a.2.1))<|
 opt.need _ (p.eqN 0 0)<|
 opt.need _ (p.eqN (p.len a.1) (p.len a.1))<|
 opt.ret _ (Sum.inr (a.1,(a.2.1,(a.2.2.2.2.1,(a.2.2.2.2.2.1,(a.2.2.2.2.2.2.1,()))))))))
def v3d (p:Prim):(LD×(LD×(LD×(LD×(LD×T9)))))→Option ((LD×(LD×(LD×(LD×(LD×T9)))))⊕(LD×(LD×(LD×(LD×(LD×T3)))))):=
 fun a=>opt.run _ (
 opt.ask _ (p.cmp .lss a.2.2.2.2.2.2.2.2.1 (p.ofNat (p.len a.2.2.2.2.1))) (
 opt.need _ (p.cmp .neq (p.ofNat (p.len a.2.2.2.2.1)) (0:Int))<|
 opt.need _ (p.rowOk a.2.2.2.2.1 (p.nat (p.ar .rem .i64 (p.ar .add .i64 a.2.2.2.2.2.2.2.2.1 (p.cvt .i64 a.2.2.2.2.2.2.2.1)) (p.ofNat (p.len a.2.2.2.2.1)))) [(CK.list 2)])<|
 opt.need _ (p.cmp .geq (p.ar .rem .i64 (p.ar .add .i64 a.2.2.2.2.2.2.2.2.1 (p.cvt .i64 a.2.2.2.2.2.2.2.1)) (p.ofNat (p.len a.2.2.2.2.1))) (0:Int))<|
 opt.bnd ((LD×Unit)) _ (w0i p ((p.rdL a.2.2.2.2.1 (p.nat (p.ar .rem .i64 (p.ar .add .i64 a.2.2.2.2.2.2.2.2.1 (p.cvt .i64 a.2.2.2.2.2.2.2.1)) (p.ofNat (p.len a.2.2.2.2.1)))) 0),((p.cvt .i64 a.2.2.2.2.2.2.2.1),()))) fun b=>
 opt.need _ (p.and (p.leN (p.add 0 1) (p.len [[(D.list Bool.false 2 b.1)]])) (p.and (p.leN (p.add 0 (p.len a.2.2.1)) (p.len a.2.2.1)) (p.and (p.leN 1 1) (p.leN (p.add (p.len a.2.2.1) 1) 1000000))))<|
 opt.need _ (p.eqN 0 0)<|
 opt.need _ (p.eqN (p.len a.2.1) (p.len a.2.1))<|
 opt.need _ (p.eqN 0 0)<|
 opt.need _ (p.eqN (p.add (p.len a.2.2.1) 1) (p.len (p.app (p.cut a.2.2.1 0 (p.len a.2.2.1)) (p.cut [[(D.list Bool.false 2 b.1)]] 0 1))))<|
 opt.need _ (p.eqN 0 0)<|
 opt.need _ (p.eqN (p.len a.1) (p.len a.1))<|
 opt.ret _ (Sum.inl (a.1,(a.2.1,((p.app (p.cut a.2.2.1 0 (p.len a.2.2.1)) (p.cut [[(D.list Bool.false 2 b.1)]] 0 1)),(a.2.2.2.1,(a.2.2.2.2.1,(a.2.2.2.2.2.1,(a.2.2.2.2.2.2.1,(a.2.2.2.2.2.2.2.1,((p.ar .add .i64 a.2.2.2.2.2.2.2.2.1 (1:Int)),()))))))))))) (
 opt.need _ (p.eqN 0 0)<|
 opt.need _ (p.eqN (p.len a.2.1) (p.len a.2.1))<|
 opt.need _ (p.eqN 0 0)<|
 opt.need _ (p.eqN (p.len a.2.2.1) (p.len a.2.2.1))<|
 opt.need _ (p.eqN 0 0)<|
 opt.need _ (p.eqN (p.len a.1) (p.len a.1))<|
 opt.ret _ (Sum.inr (a.1,(a.2.1,(a.2.2.1,(a.2.2.2.1,(a.2.2.2.2.1,(a.2.2.2.2.2.1,(a.2.2.2.2.2.2.1,()))))))))))
def G6:(p:Prim)→(LD×(LD×T5))→Option T2:=
 fun p x=>
 opt.bnd T2 _ (G29 p (x.1,(x.2.1,()))) fun a=>
 opt.ask _ (bif a.1 then Bool.false else Bool.true) (
 opt.bnd T2 _ (G15 p ()) fun b=>
 opt.ret _ (b.1,())) (
 opt.bnd ((LD×T1)) _ (G16 p (x.1,(x.2.1,()))) fun c=>
 opt.ask _ (p.cmp .neq c.2.1 (0:Int)) (
 opt.ret _ (Bool.false,())) (
 opt.bnd ((LD×Unit)) _ (v3y p (x.1,((p.cvt .i64 x.2.2.2.2.1),()))) fun d=>
 opt.bnd ((LD×(LD×(LD×(LD×T5))))) _ (
 opt.run ((LD×(LD×(LD×(LD×T5))))) (
 opt.ask _ (p.cmp .lss (p.ofNat (p.len d.1)) (12:Int)) (
 opt.need _ (p.rowOk x.1 (p.nat (0:Int)) [ci,ci])<|
 opt.need _ (p.and (p.leN (p.add 0 1) (p.len [[(D.int .i64 (p.rdI x.1 (p.nat (0:Int)) 0)),(D.int .i64 (p.rdI x.1 (p.nat (0:Int)) 1))]])) (p.and (p.leN (p.add 0 (p.len d.1)) (p.len d.1)) (p.and (p.leN 1 1) (p.leN (p.add (p.len d.1) 1) 1000000))))<|
 opt.need _ (p.eqN 0 0)<|
 opt.need _ (p.eqN (p.add (p.len d.1) 1) (p.len (p.app (p.cut d.1 0 (p.len d.1)) (p.cut [[(D.int .i64 (p.rdI x.1 (p.nat (0:Int)) 0)),(D.int .i64 (p.rdI x.1 (p.nat (0:Int)) 1))]] 0 1))))<|
 opt.need _ (p.eqN 0 0)<|
 opt.need _ (p.eqN (p.len c.1) (p.len c.1))<|
 opt.ret _ (c.1,((p.app (p.cut d.1 0 (p.len d.1)) (p.cut [[(D.int .i64 (p.rdI x.1 (p.nat (0:Int)) 0)),(D.int .i64 (p.rdI x.1 (p.nat (0:Int)) 1))]] 0 1)),(x.1,(x.2.1,(x.2.2.1,(x.2.2.2.1,(x.2.2.2.2.1,())))))))) (
 opt.need _ (p.eqN 0 0)<|
 opt.need _ (p.eqN (p.len d.1) (p.len d.1))<|
 opt.need _ (p.eqN 0 0)<|
 opt.need _ (p.eqN (p.len c.1) (p.len c.1))<|
 opt.ret _ (c.1,(d.1,(x.1,(x.2.1,(x.2.2.1,(x.2.2.2.1,(x.2.2.2.2.1,())))))))))) fun e=>
 opt.need _ (p.eqN 0 0)<|
 opt.need _ (p.eqN (p.len e.2.1) (p.len e.2.1))<|
 opt.need _ (p.eqN 0 0)<|
 opt.need _ (p.eqN (p.len e.1) (p.len e.1))<|
 opt.bnd ((LD×(LD×(LD×(LD×(LD×T3)))))) _ (
 z5k (v3d p) (e.1,(e.2.1,([],(e.2.2.1,(e.2.2.2.1,(e.2.2.2.2.1,(e.2.2.2.2.2.1,(e.2.2.2.2.2.2.1,((0:Int),())))))))))) fun f=>
 opt.need _ (p.and (p.and (p.leN (p.add 0 (p.len f.2.1)) (p.len f.2.1)) (p.and (p.leN (p.add 0 (p.len f.2.2.1)) (p.len f.2.2.1)) Bool.true)) Bool.true)<|
 opt.bnd ((LD×T1)) _ (G16 p ((p.cut f.2.1 0 (p.len f.2.1)),((p.cut f.2.2.1 0 (p.len f.2.2.1)),()))) fun g=>
 opt.need _ (p.plain g.1)<|
 opt.bnd ((LD×(LD×(LD×(Int×(Int×(Bool×Unit))))))) _ (
 opt.run ((LD×(LD×(LD×(Int×(Int×(Bool×Unit))))))) (
 opt.ask _ (p.cmp .neq g.2.1 (0:Int)) (
 opt.need _ (p.eqN 0 0)<|
 opt.need _ (p.eqN (p.len f.1) (p.len f.1))<|
 opt.ret _ (f.1,(f.2.2.2.1,(f.2.2.2.2.1,(f.2.2.2.2.2.1,(f.2.2.2.2.2.2.1,(Bool.true,()))))))) (
 opt.need _ (p.and (p.leN (p.add 0 (p.len f.1)) (p.len f.1)) (p.and (p.leN (p.add 0 (p.len g.1)) (p.len g.1)) Bool.true))<|
 opt.bnd T2 _ (G20 p ((p.cut f.1 0 (p.len f.1)),((p.cut g.1 0 (p.len g.1)),()))) fun h=>
 opt.need _ (p.eqN 0 0)<|
 opt.need _ (p.eqN (p.len f.1) (p.len f.1))<|
 opt.ret _ (f.1,(f.2.2.2.1,(f.2.2.2.2.1,(f.2.2.2.2.2.1,(f.2.2.2.2.2.2.1,((bif h.1 then Bool.false else Bool.true),()))))))))) fun i=>
 opt.ask _ i.2.2.2.2.2.1 (
 opt.ret _ (Bool.false,())) (
 opt.need _ (p.eqN 0 0)<|
 opt.need _ (p.eqN (p.len i.1) (p.len i.1))<|
 opt.bnd ((LD×(LD×(LD×T3)))) _ (
 z5k (v3c p) (i.1,([],(i.2.1,(i.2.2.1,(i.2.2.1,(i.2.2.2.1,(i.2.2.2.2.1,((0:Int),()))))))))) fun j=>
 opt.need _ (p.eqN 0 0)<|
 opt.need _ (p.eqN (p.len j.2.1) (p.len j.2.1))<|
 opt.need _ (p.eqN 0 0)<|
 opt.need _ (p.eqN (p.len j.1) (p.len j.1))<|
 opt.bnd ((LD×(LD×(LD×Unit)))) _ (
 z5k (v3b p) (j.1,(j.2.1,([],(j.2.2.1,(j.2.2.2.1,(j.2.2.2.2.1,((0:Int),())))))))) fun k=>
 opt.need _ (p.and (p.and (p.leN (p.add 0 (p.len k.2.1)) (p.len k.2.1)) (p.and Bool.true Bool.true)) Bool.true)<|
 opt.bnd T2 _ (G29 p ((p.cut k.2.1 0 (p.len k.2.1)),(k.2.2.1,()))) fun l=>
 opt.ask _ (bif l.1 then Bool.false else Bool.true) (
 opt.bnd T2 _ (G15 p ()) fun m=>
 opt.ret _ (m.1,())) (
 opt.need _ (p.and (p.and (p.leN (p.add 0 (p.len k.2.1)) (p.len k.2.1)) (p.and Bool.true Bool.true)) Bool.true)<|
 opt.bnd ((LD×T1)) _ (G16 p ((p.cut k.2.1 0 (p.len k.2.1)),(k.2.2.1,()))) fun n=>
 opt.need _ (p.plain n.1)<|
 opt.bnd T2 _ (
 opt.run T2 (
 opt.ask _ (p.cmp .eql n.2.1 (0:Int)) (
 opt.need _ (p.and (p.leN (p.add 0 (p.len n.1)) (p.len n.1)) (p.and (p.leN (p.add 0 (p.len k.1)) (p.len k.1)) Bool.true))<|
 opt.bnd T2 _ (G20 p ((p.cut n.1 0 (p.len n.1)),((p.cut k.1 0 (p.len k.1)),()))) fun o=>
 opt.ask _ o.1 (
 opt.bnd T2 _ (G15 p ()) fun q=>
 opt.ret _ (q.1,())) (
 opt.ret _ (Bool.false,()))) (
 opt.ret _ (Bool.false,())))) fun r=>
 opt.ret _ (r.1,())))))
def F6:Prim→Tup (v2j).scs→Option (STup (scss (v2j).outs)):=
 fun p x=>G6 p x
theorem eq6 (p:Prim) (x:Tup (v2j).scs):bodyRun opt p (z7x [] Go.Proofs.Try.prog) (mkOrc opt p (z7x [] Go.Proofs.Try.prog) 400 (an6) la6) 400 v2j x=G6 p x:=by kernel_rfl
theorem gok6:GamOk Go.Proofs.Try.prog (v7c):=by
 intro cf h
 simp only [v7c,List.mem_cons,List.not_mem_nil,or_false] at h
 rcases h with rfl|rfl|rfl|rfl|rfl|rfl|rfl
 ·exact v5e
 ·exact v9h
 ·exact ok31
 ·exact v9f
 ·exact w86
 ·exact ok15
 ·exact ok29
theorem w6w:z2m Go.Proofs.Try.prog 6:=enters_auto (b:=_) rfl (by kernel_rfl)
theorem ok6:CtrOk Go.Proofs.Try.prog v2j (F6 std):=ctr_of_body (z4s follows_mixed) (mkOrc_ok (z4s follows_mixed) gok6 _) w6w (fun x=>eq6 std x)
end Go.Am
end
section
namespace Go.Am
open M06
theorem x7w {i k n:Nat} (hn:0<n) (h:i+k≤1000000):std.ar .rem .i64 (std.ar .add .i64 (i:Int) (k:Int)) (n:Int)=(((i+k) % n:Nat):Int):=by
 rw [z0f,z8x,z1t _ (by omega) (by omega)]
 have:(i:Int)+(k:Int)=((i+k:Nat):Int):=by omega
 rw [this]
 exact (Int.ofNat_tmod (i+k) n).symm
theorem w2g (a:List Pt) (p:Pt):z0d a++[eP p]=z0d (a++[p]):=by simp [z0d]
theorem y84 (l:List Pt) {k:Nat} (hk:k≤1000) (hl:l.length≤1000):z5k (x04 std) ([],z0d l,(k:Int),(0:Int),())=some (z0d (rot k l),()):=by
 have key:=z6m (b:=x04 std) (fun (i:Nat)=>(z0d ((rot k l).take i),z0d l,(k:Int),(i:Int),())) (fun i=>i≤l.length) (fun i=>l.length - i) (fun _=>(z0d (rot k l),())) (fun i hi=>by
  have hrl:=z4l k l
  by_cases hlt:i<l.length
  ·left
   have hm:=Nat.mod_lt (i+k) (show 0<l.length by omega)
   obtain ⟨p,hp⟩:=z0w hm
   have hr:=x7t k l hlt
   rw [hp] at hr
   have gp:=z07 hp
   have c1:(i:Int)<(l.length:Int):=by omega
   have c2:¬ (l.length:Int)=0:=by omega
   have c3:(((i+k) % l.length:Nat):Int)≥0:=by omega
   have hw:=z09 (i:=i) (by omega)
   have hrem:=x7w (i:=i) (k:=k) (show 0<l.length by omega) (by omega)
   have ht:(rot k l).take (i+1)=(rot k l).take i++[p]:=by rw [List.take_add_one,hr]; rfl
   have hap:=w2g ((rot k l).take i) p
   rw [←ht] at hap
   have htl:(z0d ((rot k l).take i)).length=i:=by rw [z0g,List.length_take]; omega
   have htl':(z0d ((rot k l).take (i+1))).length=i+1:=by rw [z0g,List.length_take]; omega
   have htk:(z0d ((rot k l).take i)).take i=z0d ((rot k l).take i):=List.take_of_length_le (by omega)
   have hl1:i+1≤1000000:=by omega
   refine ⟨i+1,?_,by omega,by omega,rfl⟩
   generalize z0d ((rot k l).take i)=A at htl htk hap⊢
   generalize z0d ((rot k l).take (i+1))=A' at htl' hap⊢
   have hgl:=z0g l
   have hcast:(std.ofNat (std.len (z0d l)))=(l.length:Int):=by rw [z1o,z3i,hgl]
   simp only [x04,hcast,hrem]
   generalize z0d l=L at gp⊢
   simp only [z1a,z1b,z02,z17,z16,z4p,z06,z0g,z0f,hw,c1,c2,c3,gp,htl,htk,hap,htl',hl1,ne_eq,eq_self,not_true,not_false_eq_true,decide_true,decide_false,Bool.not_true,Bool.not_false,cond_true,cond_false,Nat.le_refl,Bool.and_true,List.drop_zero,List.take_succ_cons,List.take_zero,List.length_append,List.length_cons,List.length_nil,Nat.zero_add,List.length_set]
  ·right
   have:i=l.length:=by omega
   subst this
   have hn:¬ ((l.length:Int)<(l.length:Int)):=by omega
   have ht:(rot k l).take l.length=rot k l:=List.take_of_length_le (by omega)
   simp only [x04,z1a,z1b,z0g,hn,ht]) 0 (Nat.zero_le _)
 exact key
theorem w8a (l:List Pt) {k:Nat} (hk:k≤1000) (hl:l.length≤1000):v3y std (z0d l,(k:Int),())=some (z0d (rot k l),()):=by
 have h:=y84 l hk hl
 unfold v3y
 simp only [z1a,z1b,h]
theorem w79 (l:List Pt) {k:Nat} (hk:k≤1000) (hl:l.length≤1000):w0i std (z0d l,(k:Int),())=some (z0d (rot k l),()):=by
 have h:z5k (x99 std) ([],z0d l,(k:Int),(0:Int),())=some (z0d (rot k l),()):=y84 l hk hl
 have ht:(z0d (rot k l)).take (z0d (rot k l)).length=z0d (rot k l):=List.take_length
 unfold w0i
 simp only [z1a,z1b,h,eq_self,not_true,not_false_eq_true,decide_true,decide_false,Bool.not_true,Bool.not_false,cond_true,cond_false,Nat.le_refl,Bool.and_true,List.drop_zero,List.take_succ_cons,List.take_zero,List.length_append,List.length_cons,List.length_nil,Nat.zero_add,ht]
theorem w80 (a:List Pt):[D.list false 2 (z0d a)]=eH a:=rfl
theorem v13 (l:List Pt):dL ((eH l)[0]?.getD D.nilp)=z0d l:=rfl
theorem x95 (l:List Pt):z3b [CK.list 2] (eH l)=true:=rfl
theorem x41 (A L Lp:List (List D)) (hs:List (List Pt)) {k:Nat} {y:Int} (hy:std.cvt .i64 y=(k:Int)) (hk:k≤1000) (hl:hs.length≤1000) (hh:∀ h∈hs,h.length≤1000) (x1 x2:Int):
  z5k (v3d std) (A,L,[],Lp,z19 hs,x1,x2,y,(0:Int),())=some (A,L,z19 ((rot k hs).map (rot k)),Lp,z19 hs,x1,x2,()):=by
 have key:=z6m (b:=v3d std) (fun (i:Nat)=>(A,L,z19 (((rot k hs).take i).map (rot k)),Lp,z19 hs,x1,x2,y,(i:Int),())) (fun i=>i≤hs.length) (fun i=>hs.length - i) (fun _=>(A,L,z19 ((rot k hs).map (rot k)),Lp,z19 hs,x1,x2,())) (fun i hi=>by
  have hrl:=z4l k hs
  by_cases hlt:i<hs.length
  ·left
   have hm:=Nat.mod_lt (i+k) (show 0<hs.length by omega)
   obtain ⟨p,hp⟩:=z0w hm
   have hr:=x7t k hs hlt
   rw [hp] at hr
   have gp:=x4f hp
   have c1:(i:Int)<(hs.length:Int):=by omega
   have c2:¬ (hs.length:Int)=0:=by omega
   have c3:(((i+k) % hs.length:Nat):Int)≥0:=by omega
   have hw:=z09 (i:=i) (by omega)
   have hrem:=x7w (i:=i) (k:=k) (show 0<hs.length by omega) (by omega)
   have h30:=w79 p hk (hh p (List.mem_of_getElem? hp))
   have ht:((rot k hs).take (i+1)).map (rot k)=((rot k hs).take i).map (rot k)++[rot k p]:=by rw [List.take_add_one,hr]; simp
   have hap:z19 (((rot k hs).take i).map (rot k))++[eH (rot k p)]=z19 (((rot k hs).take (i+1)).map (rot k)):=by rw [ht]; simp [z19]
   have htl:(z19 (((rot k hs).take i).map (rot k))).length=i:=by rw [z85,List.length_map,List.length_take]; omega
   have htl':(z19 (((rot k hs).take (i+1)).map (rot k))).length=i+1:=by rw [z85,List.length_map,List.length_take]; omega
   have htk:(z19 (((rot k hs).take i).map (rot k))).take i=z19 (((rot k hs).take i).map (rot k)):=List.take_of_length_le (by omega)
   have hl1:i+1≤1000000:=by omega
   refine ⟨i+1,?_,by omega,by omega,rfl⟩
   generalize z19 (((rot k hs).take i).map (rot k))=B at htl htk hap⊢
   generalize z19 (((rot k hs).take (i+1)).map (rot k))=B' at htl' hap⊢
   have hgl:=z85 hs
   have hcast:(std.ofNat (std.len (z19 hs)))=(hs.length:Int):=by rw [z1o,z3i,hgl]
   simp only [v3d,hcast,hy,hrem]
   generalize z19 hs=H at gp⊢
   simp only [z1a,z1b,z0f,hw,c1,c2,c3,gp,x95,v13,h30,w80,htl,htk,hap,htl',hl1,ne_eq,eq_self,not_true,not_false_eq_true,decide_true,decide_false,Bool.not_true,Bool.not_false,cond_true,cond_false,Nat.le_refl,Bool.and_true,List.drop_zero,List.take_succ_cons,List.take_zero,List.length_append,List.length_cons,List.length_nil,Nat.zero_add]
  ·right
   have:i=hs.length:=by omega
   subst this
   have hn:¬ ((hs.length:Int)<(hs.length:Int)):=by omega
   have ht:(rot k hs).take hs.length=rot k hs:=List.take_of_length_le (by omega)
   simp only [v3d,z1a,z1b,z85,hn,ht]) 0 (Nat.zero_le _)
 exact key
theorem w0a {l:List Pt} {x y:Int} (hl:l.length≤1000) (hb:∀ p∈l,z03 (-5000) 5000 p) (hx: -32768≤x∧x≤32767) (hy: -32768≤y∧y≤32767) (A H H2:List (List D)):
  z5k (v3c std) (A,[],z0d l,H,H2,x,y,0,())=some (A,z0d (l.map (ad (x,y))),H2,x,y,()):=by
 have key:=z6m (b:=v3c std) (fun (j:Nat)=>(A,z0d ((l.take j).map (ad (x,y))),z0d l,H,H2,x,y,(j:Int),())) (fun j=>j≤l.length) (fun j=>l.length - j) (fun _=>(A,z0d (l.map (ad (x,y))),H2,x,y,())) (fun j hj=>by
  by_cases hlt:j<l.length
  ·left
   obtain ⟨p,hp⟩:=z0w hlt
   have gp:=z07 hp
   obtain ⟨b1,b2,b3,b4⟩:=hb p (List.mem_of_getElem? hp)
   have c1:(j:Int)<(l.length:Int):=by omega
   have c2:(j:Int)≥0:=by omega
   have hw:=z09 (i:=j) (by omega)
   have w1:IntKind.i64.wrap x=x:=z1t _ (by omega) (by omega)
   have w2:IntKind.i64.wrap y=y:=z1t _ (by omega) (by omega)
   have w3:IntKind.i64.wrap (p.1+x)=(ad (x,y) p).1:=by rw [z1t _ (by omega) (by omega)]; simp only [ad]; omega
   have w4:IntKind.i64.wrap (p.2+y)=(ad (x,y) p).2:=by rw [z1t _ (by omega) (by omega)]; simp only [ad]; omega
   have htl:(l.take j).length=j:=by rw [List.length_take]; omega
   have htk:(z0d ((l.take j).map (ad (x,y)))).take j=z0d ((l.take j).map (ad (x,y))):=by rw [List.take_of_length_le (by rw [z0g,List.length_map]; omega)]
   have hap:z0d ((l.take j).map (ad (x,y)))++[eP (ad (x,y) p)]=z0d ((l.take (j+1)).map (ad (x,y))):=by rw [z04 hp]; simp [z0d]
   have htl':(l.take (j+1)).length=j+1:=by rw [List.length_take]; omega
   have hl1:j+1≤1000000:=by omega
   refine ⟨j+1,?_,by omega,by omega,rfl⟩
   simp only [v3c,G31,z1a,z1b,z02,z17,z16,z4p,z06,z0g,z0f,hw,c1,c2,gp,w1,w2,w3,w4,htl,htk,hap,htl',hl1,List.length_map,List.drop_zero,List.take_succ_cons,List.take_zero,Nat.le_refl]
  ·right
   have:j=l.length:=by omega
   subst this
   have hn:¬ ((l.length:Int)<(l.length:Int)):=by omega
   simp only [v3c,z1a,z1b,z0g,hn,List.take_length]) 0 (Nat.zero_le _)
 exact key
theorem x68 {l:List Pt} {x y:Int} (hl:l.length≤1000) (hb:∀ p∈l,z03 (-5000) 5000 p) (hx: -32768≤x∧x≤32767) (hy: -32768≤y∧y≤32767) (A H:List (List D)):
  z5k (v3b std) (z0d l,A,[],H,x,y,0,())=some (z0d (l.map (ad (x,y))),A,H,()):=by
 have key:=z6m (b:=v3b std) (fun (j:Nat)=>(z0d l,A,z0d ((l.take j).map (ad (x,y))),H,x,y,(j:Int),())) (fun j=>j≤l.length) (fun j=>l.length - j) (fun _=>(z0d (l.map (ad (x,y))),A,H,())) (fun j hj=>by
  by_cases hlt:j<l.length
  ·left
   obtain ⟨p,hp⟩:=z0w hlt
   have gp:=z07 hp
   obtain ⟨b1,b2,b3,b4⟩:=hb p (List.mem_of_getElem? hp)
   have c1:(j:Int)<(l.length:Int):=by omega
   have c2:(j:Int)≥0:=by omega
   have hw:=z09 (i:=j) (by omega)
   have w1:IntKind.i64.wrap x=x:=z1t _ (by omega) (by omega)
   have w2:IntKind.i64.wrap y=y:=z1t _ (by omega) (by omega)
   have w3:IntKind.i64.wrap (p.1+x)=(ad (x,y) p).1:=by rw [z1t _ (by omega) (by omega)]; simp only [ad]; omega
   have w4:IntKind.i64.wrap (p.2+y)=(ad (x,y) p).2:=by rw [z1t _ (by omega) (by omega)]; simp only [ad]; omega
   have htl:(l.take j).length=j:=by rw [List.length_take]; omega
   have htk:(z0d ((l.take j).map (ad (x,y)))).take j=z0d ((l.take j).map (ad (x,y))):=by rw [List.take_of_length_le (by rw [z0g,List.length_map]; omega)]
   have hap:z0d ((l.take j).map (ad (x,y)))++[eP (ad (x,y) p)]=z0d ((l.take (j+1)).map (ad (x,y))):=by rw [z04 hp]; simp [z0d]
   have htl':(l.take (j+1)).length=j+1:=by rw [List.length_take]; omega
   have hl1:j+1≤1000000:=by omega
   refine ⟨j+1,?_,by omega,by omega,rfl⟩
   simp only [v3b,G31,z1a,z1b,z02,z17,z16,z4p,z06,z0g,z0f,hw,c1,c2,gp,w1,w2,w3,w4,htl,htk,hap,htl',hl1,List.length_map,List.drop_zero,List.take_succ_cons,List.take_zero,Nat.le_refl,if_true,decide_true]
  ·right
   have:j=l.length:=by omega
   subst this
   have hn:¬ ((l.length:Int)<(l.length:Int)):=by omega
   simp only [v3b,z1a,z1b,z0g,hn,List.take_length]) 0 (Nat.zero_le _)
 exact key
theorem y6f (l:List Pt):std.plain (z0d l)=true:=by
 show (z0d l).all (fun r=>r.all z61)=true
 rw [z0d,List.all_map,List.all_eq_true]
 intro x _; rfl
def z3c (k:Nat) (l:List Pt):List Pt:=if l.length<12 then rot k l++l.take 1 else rot k l
theorem x4x (k:Nat) (l:List Pt):SE l (z3c k l):=fun p=>by
 have h:=(y0l k l).mem_iff (a:=p)
 unfold z3c
 split
 ·rw [List.mem_append,h]
  exact ⟨.inl,fun h=>h.elim id fun h=>List.mem_of_mem_take h⟩
 ·exact h.symm
theorem w3r (k:Nat) (l:List Pt):SE l (rot k l):=fun p=>(y0l k l).mem_iff.symm
theorem x7b (k:Nat) (l:List Pt) (hs:List (List Pt)):SE (z37 l hs) (z37 (z3c k l) ((rot k hs).map (rot k))):=fun p=>
 (w0d (y0l k hs).symm l p).trans (y8i (rot k hs) l (z3c k l) (x4x k l) (fun h _=>w3r k h) p)
theorem w1p {l:List Pt} (k:Nat) (h:z43 l):z43 (rot k l):=by
 unfold z43 at h⊢; rw [z4l]; exact h
theorem x1m {l:List Pt} {hs:List (List Pt)} (k:Nat) (h:y0a l hs):y0a (z3c k l) ((rot k hs).map (rot k)) where
 many:=by
  have:=h.many
  unfold z3c
  unfold z43 at this⊢
  split
  ·rw [List.length_append,z4l,List.length_take]; omega
  ·rw [z4l]; exact this
 few:=by rw [List.length_map,z4l]; exact h.few
 manyH:=fun x hx=>by
  obtain ⟨y,hy,rfl⟩:=List.mem_map.1 hx
  exact w1p k (h.manyH y ((y0l k hs).mem_iff.1 hy))
 box:=fun p hp=>h.box p ((x4x k l p).2 hp)
 boxH:=fun x hx p hp=>by
  obtain ⟨y,hy,rfl⟩:=List.mem_map.1 hx
  exact h.boxH y ((y0l k hs).mem_iff.1 hy) p ((w3r k y p).2 hp)
theorem v80 (l:List Pt) (hs:List (List Pt)) (x:Int) (hx:(Lit.int IntKind.i16 x).wf=true) (y:Int) (hy:(Lit.int IntKind.i16 y).wf=true) (n:Int) (hn:(Lit.int IntKind.u8 n).wf=true):
  G6 std (z0d l,z19 hs,x,y,n,())=some (true,()):=by
 have h29:=w4v l hs
 unfold G6
 by_cases hf:y0a l hs
 case neg=>
  rw [decide_eq_false hf] at h29
  simp only [z1a,z1b,h29,x1e,eq_self,not_true,not_false_eq_true,decide_true,decide_false,Bool.not_true,Bool.not_false,cond_true,cond_false,Nat.le_refl,Bool.and_true,List.drop_zero,List.take_succ_cons,List.take_zero,List.length_append,List.length_cons,List.length_nil,Nat.zero_add]
 rw [decide_eq_true hf] at h29
 have rx:=y98 hx
 have ry:=y98 hy
 have rn:=w0x hn
 have c0:=z87.2 hf
 have h16:=w0j l hs
 have eA:x21 l hs=z6f (z37 l hs):=by unfold x21; rw [if_pos c0]
 have hcl:=x4u hf
 have hcb:∀ p∈z6f (z37 l hs),z03 (-5000) 5000 p:=fun p hp=>hf.boxA p (y4m hf.cyc p hp)
 obtain ⟨k,hk⟩:∃ k:Nat,n=k:=⟨n.toNat,by omega⟩
 subst hk
 have hcv:std.cvt .i64 (k:Int)=(k:Int):=by rw [w46]; exact z1t _ (by omega) (by omega)
 have hcw:IntKind.i64.wrap (k:Int)=(k:Int):=z1t _ (by omega) (by omega)
 have hk1:k≤1000:=by omega
 have hm:=hf.many
 have hl12:l.length≤12:=hm.2
 have hlpos:1≤l.length:=hm.1
 have h30:=w8a l hk1 (by omega)
 have hh:∀ h∈hs,h.length≤1000:=fun h hh=>by have:=(hf.manyH h hh).2; omega
 have hfew:=hf.few
 have hft:=x1m k hf
 have h16t:=w0j (z3c k l) ((rot k hs).map (rot k))
 have ct:=z87.2 hft
 have eT:x21 (z3c k l) ((rot k hs).map (rot k))=z6f (z37 l hs):=by
  unfold x21
  rw [if_pos ct,x6j hf.allNe (x7b k l hs)]
 rw [ct,eT] at h16t
 rw [c0,eA] at h16
 have hHl:=x41 (z0d (z6f (z37 l hs))) (z0d (z3c k l)) (z0d l) hs hcv hk1 (by omega) hh x y
 have hbl:∀ p∈l,z03 (-5000) 5000 p:=fun p hp=>by have:=hf.box p hp; simp only [z03] at this⊢; omega
 have hal:=w0a (l:=l) (by omega) hbl rx ry (z0d (z6f (z37 l hs))) (z19 hs) (z19 hs)
 have hwl:=x68 (l:=z6f (z37 l hs)) (by omega) hcb rx ry (z0d (l.map (ad (x,y)))) (z19 hs)
 have h20:=w4w (z6f (z37 l hs)) (z6f (z37 l hs)) (by omega)
 rw [decide_eq_true rfl] at h20
 have hpl:=y6f (z6f (z37 l hs))
 have h29m:=w4v (l.map (ad (x,y))) hs
 have h16m:=w0j (l.map (ad (x,y))) hs
 have g0:(z0d l)[0]?=some (eP (l.getD 0 (0,0))):=by
  obtain ⟨p,hp⟩:=z0w (l:=l) (i:=0) (by omega)
  rw [z07 hp,y1q hp]
 have hag:l.length<12→z0d (rot k l)++[eP (l.getD 0 (0,0))]=z0d (z3c k l):=fun hlt=>by
  obtain ⟨p,hp⟩:=z0w (l:=l) (i:=0) (by omega)
  unfold z3c
  rw [if_pos hlt,y1q hp]
  have:l.take 1=[p]:=by
   have:=List.take_add_one (l:=l) (i:=0)
   rw [hp] at this
   simpa using this
  rw [this]; simp [z0d]
 have hag2:¬ l.length<12→rot k l=z3c k l:=fun hlt=>by unfold z3c; rw [if_neg hlt]
 have lC:=z0g (z6f (z37 l hs))
 have lR:(z0d (rot k l)).length=l.length:=by rw [z0g,z4l]
 have tR:(z0d (rot k l)).take l.length=z0d (rot k l):=List.take_of_length_le (by omega)
 have tC:(z0d (z6f (z37 l hs))).take (z6f (z37 l hs)).length=z0d (z6f (z37 l hs)):=List.take_of_length_le (by omega)
 have lG:(z0d (z3c k l)).length=(z3c k l).length:=z0g _
 have tG:(z0d (z3c k l)).take (z3c k l).length=z0d (z3c k l):=List.take_of_length_le (by omega)
 have lH:(z19 ((rot k hs).map (rot k))).length=hs.length:=by rw [z85,List.length_map,z4l]
 have tH:(z19 ((rot k hs).map (rot k))).take hs.length=z19 ((rot k hs).map (rot k)):=List.take_of_length_le (by omega)
 have lM:(z0d (l.map (ad (x,y)))).length=l.length:=by rw [z0g,List.length_map]
 have tM:(z0d (l.map (ad (x,y)))).take l.length=z0d (l.map (ad (x,y))):=List.take_of_length_le (by omega)
 have lW:(z0d ((z6f (z37 l hs)).map (ad (x,y)))).length=(z6f (z37 l hs)).length:=by rw [z0g,List.length_map]
 have tW:(z0d ((z6f (z37 l hs)).map (ad (x,y)))).take (z6f (z37 l hs)).length=z0d ((z6f (z37 l hs)).map (ad (x,y))):=List.take_of_length_le (by omega)
 have hpW:=y6f ((z6f (z37 l hs)).map (ad (x,y)))
 have h20m:=w4w ((z6f (z37 l hs)).map (ad (x,y))) ((z6f (z37 l hs)).map (ad (x,y))) (by rw [List.length_map]; omega)
 rw [decide_eq_true rfl] at h20m
 have hc1:l.length+1≤1000000:=by omega
 have hjoin:∀ (β:Type) (f:List (List D)→Option β),(if (l.length:Int)<12 then f (z0d (rot k l)++[eP (l.getD 0 (0,0))]) else f (z0d (rot k l)))=f (z0d (z3c k l)):=fun β f=>by
  by_cases hlt:l.length<12
  ·rw [if_pos (by omega),hag hlt]
  ·rw [if_neg (by omega),hag2 hlt]
 have fin:∀ g:Bool,g=decide (y0a (l.map (ad (x,y))) hs)→(g=true→G16 std (z0d (l.map (ad (x,y))),z19 hs,())=some (z0d ((z6f (z37 l hs)).map (ad (x,y))),0,())):=fun g hg ht=>by
  have hfm:y0a (l.map (ad (x,y))) hs:=of_decide_eq_true (hg▸ht)
  have cm:=z87.2 hfm
  rw [h16m]
  unfold x21
  rw [if_pos cm,cm,x09,x90 hf.allNe]
 have hz0:Int.toNat 0=0:=rfl
 by_cases hlt:l.length<12
 ·have e1:(l.length:Int)<12:=by omega
  have hap:=hag hlt
  have lA:(z0d (z3c k l)).length=l.length+1:=by rw [←hap,List.length_append,lR]; rfl
  rw [lA] at lG
  rw [←lG] at tG
  have lG':(z3c k l).length=l.length+1:=lG.symm
  have hc2:l.length+1≤l.length+1:=Nat.le_refl _
  cases hgd:decide (y0a (l.map (ad (x,y))) hs) with
  |false=>
   rw [hgd] at h29m
   simp only [z1a,z1b,h29,h16,hcv,hcw,h30,lR,e1,hz0,g0,z02,z17,z16,z4p,z06,z0g,tR,hap,lA,lG',z4l,List.length_map,hc1,hHl,tG,lH,tH,h16t,hpl,lC,tC,h20,hal,hwl,lM,tM,h29m,x1e,ne_eq,eq_self,not_true,not_false_eq_true,decide_true,decide_false,Bool.not_true,Bool.not_false,cond_true,cond_false,Nat.le_refl,Bool.and_true,List.drop_zero,List.take_succ_cons,List.take_zero,List.length_append,List.length_cons,List.length_nil,Nat.zero_add]
  |true=>
   rw [hgd] at h29m
   have h16f:=fin _ rfl hgd
   simp only [z1a,z1b,h29,h16,hcv,hcw,h30,lR,e1,hz0,g0,z02,z17,z16,z4p,z06,z0g,tR,hap,lA,lG',z4l,List.length_map,hc1,hHl,tG,lH,tH,h16t,hpl,lC,tC,h20,hal,hwl,lM,tM,h29m,h16f,hpW,lW,tW,h20m,x1e,ne_eq,eq_self,not_true,not_false_eq_true,decide_true,decide_false,Bool.not_true,Bool.not_false,cond_true,cond_false,Nat.le_refl,Bool.and_true,List.drop_zero,List.take_succ_cons,List.take_zero,List.length_append,List.length_cons,List.length_nil,Nat.zero_add]
 ·have e1:¬ (l.length:Int)<12:=by omega
  have hag':=hag2 hlt
  have lA:(z0d (z3c k l)).length=l.length:=by rw [←hag']; exact lR
  rw [hag'] at h30 tR lR
  have lG':(z3c k l).length=l.length:=by rw [←hag',z4l]
  cases hgd:decide (y0a (l.map (ad (x,y))) hs) with
  |false=>
   rw [hgd] at h29m
   simp only [z1a,z1b,h29,h16,hcv,hcw,h30,e1,lA,lG',z4l,List.length_map,hHl,tR,lH,tH,h16t,hpl,lC,tC,h20,hal,hwl,lM,tM,h29m,x1e,ne_eq,eq_self,not_true,not_false_eq_true,decide_true,decide_false,Bool.not_true,Bool.not_false,cond_true,cond_false,Nat.le_refl,Bool.and_true,List.drop_zero,List.take_succ_cons,List.take_zero,List.length_append,List.length_cons,List.length_nil,Nat.zero_add]
  |true=>
   rw [hgd] at h29m
   have h16f:=fin _ rfl hgd
   simp only [z1a,z1b,h29,h16,hcv,hcw,h30,e1,lA,lG',z4l,List.length_map,hHl,tR,lH,tH,h16t,hpl,lC,tC,h20,hal,hwl,lM,tM,h29m,h16f,hpW,lW,tW,h20m,x1e,ne_eq,eq_self,not_true,not_false_eq_true,decide_true,decide_false,Bool.not_true,Bool.not_false,cond_true,cond_false,Nat.le_refl,Bool.and_true,List.drop_zero,List.take_succ_cons,List.take_zero,List.length_append,List.length_cons,List.length_nil,Nat.zero_add]
end Go.Am
end
section
namespace Go.Proofs.Ytolfgnbldofcjaa
open Go.ChangeShapes Go.WideShapes Go.ChangeAt Go.RowKit Go.Am
theorem v4w {e0:List (List D)} {e1:List (List D)} {e2:Int} {e3:Int} {e4:Int} (h:G6 std (e0,e1,e2,e3,e4,())=some (true,())):∃ h',z9f Try.prog 6 (toA [.agg [.list false 2 e0, .list false 1 e1], .int .i16 e2, .int .i16 e3, .int .u8 e4]) [] (.d (.bool true)) h':=by
 have:=(ok6.2 (e0,e1,e2,e3,e4,()) (true,()) h).2
 exact ⟨_,this⟩
theorem shp6:w5a Try.prog 6 Try.f6.params.toList=true:=by kernel_rfl
theorem rt6:Try.f6.resultTypes=#[Try.f6.resultTypes.getD 0 0]:=by kernel_rfl
theorem rb6:Try.prog.underlying (Try.f6.resultTypes.getD 0 0)=some .bool:=by kernel_rfl
theorem v26:Try.f6.params.toList.all (fun t=>decide (t<Try.prog.types.size))=true:=by kernel_rfl
set_option maxRecDepth 100000 in
theorem x91 (H:Type) (enc:TypeId×Value→H) (W:World) (base:Nat) (args:Array Value) (ds gs:List (DataW H)) (before:List MemPlace)
  (hval:∀ (j:Nat) t v,Try.f6.params[j]?=some t→args[j]?=some v→Value.okWide Try.prog W .any base t v)
  (hW:DataW.Whole enc Try.prog Try.f6.params.toList Rows.signalMovedSpec.vars false W args.toList ds gs before):
  Calls Try.prog 6 args W fun e W'=>∃ v,e= .returned v∧Rows.signalMovedSpec.post enc Try.prog Try.f6 false true false false W args v W':=by
 have hW':=hW
 obtain ⟨p,q,hA0,hV,rfl,hfz,hnd⟩:=hW
 have hA:DataW.TrodAll enc Try.prog W 0 (fun _=>true) true Try.f6.params.toList args.toList ds p:=hA0
 obtain ⟨xs,h1,h2,h3⟩:=w0b (O:=fun _=>False) (fun _ h=>h) shp6 (x8l hval) hA
 have hd:∃ x0 x1 x2 x3,xs=[x0,x1,x2,x3]∧(∃ ds,x0= .agg ds∧DKs [.list [.int .i64, .int .i64], .list [.list [.int .i64, .int .i64]]] ds)∧(DK (.int .i16) x1)∧(DK (.int .i16) x2)∧(DK (.int .u8) x3):=by
  match xs,h1 with
  |[x0,x1,x2,x3],h1=>exact ⟨x0,x1,x2,x3,rfl,h1.1,h1.2.1,h1.2.2.1,h1.2.2.2.1⟩
 obtain ⟨x0,x1,x2,x3,rfl,k0,k1,k2,k3⟩:=hd
 obtain ⟨l0,hz0,rfl⟩:=w14 k0
 obtain ⟨n1,rfl,wf1⟩:=w33 k1
 obtain ⟨n2,rfl,wf2⟩:=w33 k2
 obtain ⟨n3,rfl,wf3⟩:=v4x k3
 obtain ⟨h',hr⟩:=v4w (v80 l0 hz0 n1 wf1 n2 wf2 n3 wf3)
 exact (y8d hr h2 h3).mono fun e W' ⟨he,hs⟩=>⟨_,he,w1v laid rowed sized v26 rfl rt6 rb6 (fun ds hd=>by
  match ds,hd with
  |[d0,d1,d2,d3],_=>exact ⟨rfl,rfl,rfl⟩) hW' hs⟩
set_option maxRecDepth 100000 in
theorem w5y (os:Os) (started:os.Started) (H:Type) (enc:TypeId×Value→H):
  ReturnsInHanded {} Try.checked os 6 .any (Rows.signalMovedSpec.pre6 enc Try.prog Try.f6 Rows.signalMovedRow.domain false) (Rows.signalMovedSpec.post enc Try.prog Try.f6 false true false false):=by
 refine returnsInHanded_of_change (C:=Try.checked) own started (by kernel_rfl) Try.func6
  (ChangeSpec.witness6 (enc:=enc) (C:=Try.checked) false ⟨#[],#[.agg #[.slice none 0 0, .slice none 0 0], .int .i16 0, .int .i16 0, .int .u8 0],[]⟩ 8 (by kernel_rfl) (by kernel_rfl) (by kernel_rfl) (by kernel_rfl)) ?_
 intro W base args ds gs before hval hW _ _
 exact x91 H enc W base args ds gs before hval hW
set_option maxRecDepth 100000 in
theorem y2n:Rows.signalMovedRow.holds Try.pinned (OpenSpec.ofChange Rows.signalMovedSpec):=
 OpenClaim.holds_of_wide 6 Try.f6 rfl rfl rfl rfl rfl rfl rfl ⟨rfl,rfl,rfl,rfl,rfl⟩ rfl rfl rfl rfl rfl (by kernel_rfl) Try.func6 (by kernel_rfl)
  (of_decide_eq_true (by kernel_rfl)) (by unfold Func.isWrapper; first|(rw [if_pos (by decide+kernel)]; kernel_rfl)|(rw [if_neg (by decide+kernel)]; exact ⟨rfl,rfl⟩))
  (fun os started H enc _=>w5y os started H enc)
theorem signalMoved_holds:Rows.SignalMovedSaid:=y2n
end Go.Proofs.Ytolfgnbldofcjaa
end
