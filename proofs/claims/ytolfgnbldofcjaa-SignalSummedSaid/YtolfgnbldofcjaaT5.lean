/- Texts of this claim. -/
import Derived.Test.YtolfgnbldofcjaaT4
import Derived.Test.YtolfgnbldofcjaaProg
import Derived.KernelRfl
set_option linter.unusedVariables false
set_option linter.unusedSimpArgs false
set_option linter.unusedSectionVars false
set_option maxRecDepth 100000
set_option maxHeartbeats 0
section
namespace Go.Am
open M06
theorem y75:∀ l:List Pt,(M06.ways l).length=l.length - 1
 |[]=>rfl
 |[_]=>rfl
 |a::b::l=>by simp only [M06.ways,List.length_cons,y75 (b::l)]; omega
theorem x4j:∀ (l:List Pt) (i:Nat) (x y:Pt),l[i]?=some x→l[i+1]?=some y→(M06.ways l)[i]?=some (sb y x)
 |[],i,x,y,h,_=>by simp at h
 |[a],i,x,y,_,h=>by simp at h
 |a::b::l,0,x,y,h1,h2=>by
  simp at h1 h2; subst h1; subst h2; rfl
 |a::b::l,i+1,x,y,h1,h2=>by
  have:=x4j (b::l) i x y (by simpa using h1) (by simpa using h2)
  simpa [M06.ways] using this
theorem v0y {c:List Pt} (h:2≤c.length):(wy c).length=c.length:=by
 match c,h with
 |a::b::r,_=>simp [wy,y75]
theorem y37 (c:List Pt):(wy c).length≤c.length:=by
 match c with
 |[]=>simp [wy]
 |[a]=>simp [wy]
 |a::b::r=>simp [wy,y75]
theorem v0z {c:List Pt} {i:Nat} {x y:Pt} (h2:2≤c.length) (hx:c[i]?=some x) (hy:c[(i+1) % c.length]?=some y):(wy c)[i]?=some (sb y x):=by
 match c,h2 with
 |a::b::r,_=>
  have hi:i<(a::b::r).length:=(List.getElem?_eq_some_iff.1 hx).1
  refine x4j _ i x y ?_ ?_
  ·rw [List.getElem?_append_left hi]; exact hx
  ·by_cases hl:i+1<(a::b::r).length
   ·rw [List.getElem?_append_left hl]
    rwa [Nat.mod_eq_of_lt hl] at hy
   ·have he:i+1=(a::b::r).length:=by omega
    rw [he,Nat.mod_self] at hy
    rw [List.getElem?_append_right (by omega),he]
    simp at hy⊢; exact hy
theorem x7x {S c:List Pt} (h:Cyc S c) (h2:2≤c.length):∀ w∈wy c,w≠(0,0):=by
 match c,h2,h with
 |a::b::r,_,h=>exact (y31 h).2.2.1
theorem x3s {i n:Nat} (hn:0<n) (hi:i<1000000):IntKind.i64.wrap ((i:Int)+1)=((i+1:Nat):Int)∧(((i+1:Nat):Int).tmod (n:Int))=(((i+1) % n:Nat):Int):=by
 refine ⟨z1g (by omega),?_⟩
 rw [Int.tmod_eq_emod_of_nonneg (by omega)]
 rfl
theorem x0k {x y:Pt} (hx:z3s x) (hy:z3s y):IntKind.i64.wrap (x.1 - y.1)=(sb x y).1∧IntKind.i64.wrap (x.2 - y.2)=(sb x y).2:=by
 obtain ⟨x1,x2,x3,x4⟩:=hx
 obtain ⟨y1,y2,y3,y4⟩:=hy
 exact ⟨z1k _ (by omega) (by omega),z1k _ (by omega) (by omega)⟩
theorem y95 {S c:List Pt} (hc:Cyc S c) (hs:∀ x∈c,z3s x) (hl:c.length≤1000) (o:List Pt) (ho:o.length≤1000) (Ls X Y:List (List D)) (n i:Int):
  z4m (y9r std) (Ls,z0b o,z0b c,n,X,Y,i,z0b c,(c.length:Int),(0:Int),())=some (.inl (Ls,z0b (o++wy c),z0b c,n,X,Y,i,()))∨
  z4m (y9r std) (Ls,z0b o,z0b c,n,X,Y,i,z0b c,(c.length:Int),(0:Int),())=some (.inr (Ls,z0b (o++wy c),z0b c,n,X,Y,i,())):=by
 by_cases h2:2≤c.length
 ·right
  have hnz:=x7x hc h2
  have hwl:=v0y h2
  have key:=y2k (b:=y9r std) (fun (j:Nat)=>(Ls,z0b (o++(wy c).take j),z0b c,n,X,Y,i,z0b c,(c.length:Int),(j:Int),())) (fun j=>j≤c.length) (fun j=>c.length - j) (fun _=>Sum.inr (Ls,z0b (o++wy c),z0b c,n,X,Y,i,())) (fun j hj=>by
   by_cases hlt:j<c.length
   ·left
    obtain ⟨x,hx⟩:=z0q hlt
    obtain ⟨y,hy⟩:=z0q (l:=c) (i:=(j+1) % c.length) (Nat.mod_lt _ (by omega))
    have hw:=v0z h2 hx hy
    have hne:=hnz _ (List.mem_of_getElem? hw)
    obtain ⟨m1,m2⟩:=x3s (i:=j) (n:=c.length) (by omega) (by omega)
    have gx:=z0w hx
    have gy:=z0w hy
    obtain ⟨d1,d2⟩:=x0k (hs y (List.mem_of_getElem? hy)) (hs x (List.mem_of_getElem? hx))
    have c1:(j:Int)<(c.length:Int):=by omega
    have c2:(j:Int)≥0:=by omega
    have c3:¬ (c.length:Int)=0:=by omega
    have c4:(((j+1) % c.length:Nat):Int)≥0:=by omega
    have c5:(((j+1) % c.length:Nat):Int)<(c.length:Int):=by have:=Nat.mod_lt (j+1) (show 0<c.length by omega); omega
    have hol2:(o++(wy c).take (j+1)).length≤1000000:=by simp; omega
    have hol:(o++(wy c).take j).length+1≤1000000:=by simp; omega
    have htk:(z0b (o++(wy c).take j)).take (o++(wy c).take j).length=z0b (o++(wy c).take j):=by rw [List.take_of_length_le (by rw [z0e]; omega)]
    have hap:z0b (o++(wy c).take j)++[eP (sb y x)]=z0b (o++(wy c).take (j+1)):=by
     rw [z1f hw]; simp [z0b]
    have hrow:[D.int IntKind.i64 (sb y x).1,D.int IntKind.i64 (sb y x).2]=eP (sb y x):=rfl
    have hal:(o++(wy c).take j).length+1=(o++(wy c).take (j+1)).length:=by rw [z1f hw]; simp; omega
    have hne':¬ ((sb y x).1=0∧(sb y x).2=0):=fun e=>hne (Prod.ext e.1 e.2)
    refine ⟨j+1,?_,by omega,by omega,rfl⟩
    by_cases z1:(sb y x).1=0
    ·have z2:¬ (sb y x).2=0:=fun e=>hne' ⟨z1,e⟩
     simp only [y9r,z01,z02,z0p,z1b,z1a,z27,z0v,z0e,z0f,z1r,z0o,m1,m2,gx,gy,d1,d2,c1,c2,c3,c4,c5,z1,z2,htk,hol2,List.drop_zero,List.take_succ_cons,List.take_zero,hap,hrow,hal,Nat.le_refl,not_false_eq_true]
     rw [←z1]
     simp only [z01,z02,z0p,z1b,z1a,z27,z0v,z0e,hap,hrow,hal,hol2,Nat.le_refl]
    ·simp only [y9r,z01,z02,z0p,z1b,z1a,z27,z0v,z0e,z0f,z1r,z0o,m1,m2,gx,gy,d1,d2,c1,c2,c3,c4,c5,z1,htk,hol2,List.drop_zero,List.take_succ_cons,List.take_zero,hap,hrow,hal,Nat.le_refl,not_false_eq_true]
   ·right
    have:j=c.length:=by omega
    subst this
    have hn:¬ ((c.length:Int)<(c.length:Int)):=by omega
    rw [←hwl,List.take_length,hwl]
    simp only [y9r,z01,z02,hn]) 0 (Nat.zero_le _)
  simpa using key
 ·left
  have hc1:∃ x,c=[x]:=by
   match c,hc,h2 with
   |[x],_,_=>exact ⟨x,rfl⟩
   |a::b::r,_,h2=>exact absurd (by simp) h2
  obtain ⟨x,rfl⟩:=hc1
  ·have gx:=z0w (l:=[x]) (i:=0) rfl
   obtain ⟨d1,d2⟩:=x0k (hs x (by simp)) (hs x (by simp))
   have z1:(sb x x).1=0:=by simp [sb]
   have z2:(sb x x).2=0:=by simp [sb]
   rw [z1] at d1
   rw [z2] at d2
   have w1:IntKind.i64.wrap 1=1:=by decide
   have t1:(1:Int).tmod 1=0:=by decide
   rw [z0k]
   have:y9r std (Ls,z0b o,z0b [x],n,X,Y,i,z0b [x],(([x]:List Pt).length:Int),(0:Int),())=some (.inr (.inl (Ls,z0b (o++wy [x]),z0b [x],n,X,Y,i,()))):=by
    have e:wy [x]=[]:=rfl
    rw [e,List.append_nil]
    have c1:(0:Int)<((0+1:Nat):Int):=by omega
    have l1:((0+1:Nat):Int)=1:=rfl
    simp only [y9r,z01,z02,z0p,z1b,z1a,z27,z0v,z0e,z0f,z1r,z0o,l1,Int.zero_add,w1,t1,gx,d1,d2,Int.toNat_zero,ge_iff_le,Int.le_refl,show (0:Int)<1 by decide,show ¬ (1:Int)=0 by decide,not_false_eq_true]
   rw [this]
theorem y03 {x:Pt} (h:z0s (-5000) 5000 x):z3s x:=by
 obtain ⟨h1,h2,h3,h4⟩:=h
 exact ⟨by omega,by omega,by omega,by omega⟩
theorem w65 {x y:Pt} (h:z0s (-5000) 5000 x) (k:z0s (-5000) 5000 y):z0s (-10000) 10000 (sb x y):=by
 obtain ⟨h1,h2,h3,h4⟩:=h
 obtain ⟨k1,k2,k3,k4⟩:=k
 refine ⟨?_,?_,?_,?_⟩<;>simp only [sb]<;>omega
theorem x4k:∀ {l:List Pt},(∀ x∈l,z0s (-5000) 5000 x)→∀ w∈M06.ways l,z0s (-10000) 10000 w
 |[],_,w,hw=>by simp [M06.ways] at hw
 |[_],_,w,hw=>by simp [M06.ways] at hw
 |a::b::l,h,w,hw=>by
  rcases List.mem_cons.1 hw with rfl|hw
  ·exact w65 (h b (by simp)) (h a (by simp))
  ·exact x4k (l:=b::l) (fun x hx=>h x (List.mem_cons_of_mem _ hx)) w hw
theorem w5s {c:List Pt} (h:∀ x∈c,z0s (-5000) 5000 x):∀ w∈wy c,z0s (-10000) 10000 w:=by
 match c,h with
 |[],_=>simp [wy]
 |[a],_=>simp [wy]
 |a::b::r,h=>
  refine x4k (l:=a::b::r++[a]) fun x hx=>?_
  rcases List.mem_append.1 hx with hx|hx
  ·exact h x hx
  ·simp at hx; subst hx; exact h _ (by simp)
theorem x4o:∀ {l:List Pt},(∀ w∈l,z0s (-10000) 10000 w)→z0s (-(10000*(l.length:Int))) (10000*(l.length:Int)) (z1d l)
 |[],_=>by simp [z1d,z0s]
 |w::l,h=>by
  have h1:=h w (by simp)
  have h2:=x4o (l:=l) (fun x hx=>h x (List.mem_cons_of_mem _ hx))
  rw [z0u]
  simp only [z0s,ad,List.length_cons] at*
  omega
theorem y83:∀ (now:Pt) (ws:List Pt),(grp now ws).length≤ws.length
 |_,[]=>by simp [grp]
 |_,[w]=>by simp [grp]
 |now,w::w'::ws=>by
  rw [grp]
  split
  ·have:=y83 (ad now w) (w'::ws); simp at this⊢; omega
  ·have:=y83 (ad now w) (w'::ws); simp at this⊢; omega
theorem u1o {S a:List Pt} (h:Cyc S a):∀ w∈wy a,w≠(0,0):=by
 match a,h with
 |[x],_=>simp [wy]
 |x::y::r,h=>exact (y31 h).2.2.1
theorem v59 {A B a b:List Pt} (hA:Cyc A a) (hB:Cyc B b) (ka:∀ x∈a,z0s (-5000) 5000 x) (kb:∀ x∈b,z0s (-5000) 5000 x) (la:a.length≤60) (lb:b.length≤30):
  ∃ c,G80 std (z0b a,z0b b,())=some (z0b c,())∧c.length≤a.length+b.length∧∀ T,(∀ z,z∈T↔∃ x∈A,∃ y∈B,z=ad x y)→Cyc T c:=by
 have sa:∀ x∈a,z3s x:=fun x hx=>y03 (ka x hx)
 have sb':∀ x∈b,z3s x:=fun x hx=>y03 (kb x hx)
 have hbox:∀ w∈wy a++wy b,z0s (-10000) 10000 w:=fun w hw=>by
  rcases List.mem_append.1 hw with h|h
  ·exact w5s ka w h
  ·exact w5s kb w h
 have hnz:∀ w∈wy a++wy b,w≠(0,0):=fun w hw=>by
  rcases List.mem_append.1 hw with h|h
  ·exact u1o hA w h
  ·exact u1o hB w h
 have hsm:∀ {w:Pt},z0s (-10000) 10000 w→z3s w:=fun {w} h=>by
  obtain ⟨h1,h2,h3,h4⟩:=h
  exact ⟨by omega,by omega,by omega,by omega⟩
 have hlen:(wy a++wy b).length≤a.length+b.length:=by
  have:=y37 a; have:=y37 b; simp; omega
 obtain ⟨ws,hg97,hp,hs⟩:=v06 (wy a++wy b) (fun w hw=>⟨hsm (hbox w hw),hnz w hw⟩) (by omega)
 have hwl:ws.length≤a.length+b.length:=by rw [hp.length_eq]; exact hlen
 have wbox:∀ w∈ws,z0s (-10000) 10000 w:=fun w hw=>hbox w (hp.mem_iff.1 hw)
 have wnz:∀ w∈ws,w≠(0,0):=fun w hw=>hnz w (hp.mem_iff.1 hw)
 have hs':ws.Pairwise (fun u v=>¬ Bef v u):=hs.imp_of_mem fun {u v} hu hv h hb=>h ((x4n (wnz v hv) (wnz u hu)).2 hb)
 generalize hs0:ad (hd0 a) (hd0 b)=s0
 have ha0:a[0]?=some (hd0 a):=by
  match a,hA with
  |x::r,_=>rfl
 have hb0:b[0]?=some (hd0 b):=by
  match b,hB with
  |x::r,_=>rfl
 have ka0:=ka _ (List.mem_of_getElem? ha0)
 have kb0:=kb _ (List.mem_of_getElem? hb0)
 have hs0b:z0s (-10000) 10000 s0:=by
  rw [←hs0]
  simp only [z0s,ad] at*; omega
 have hnowbox:∀ i,z3s (ad s0 (z1d (ws.take i))):=fun i=>by
  have h1:=x4o (l:=ws.take i) (fun w hw=>wbox w (List.mem_of_mem_take hw))
  have h2:(ws.take i).length≤90:=by simp; omega
  simp only [z0s,ad,z3s] at*; omega
 refine ⟨w3c s0 ws,?_,?_,fun T hT=>?_⟩
 rotate_left
 ·have h1:=y83 s0 ws
  have ha1:1≤a.length:=by have:=(List.getElem?_eq_some_iff.1 ha0).1; omega
  unfold w3c
  split
  ·simp; omega
  ·simp only [List.length_cons] at*; omega
 ·rw [←hs0]
  exact w3b hA hB hT hp hs'
 have hways:z4m (y3m it0 std) ([[D.list false 2 (z0b a)],[D.list false 2 (z0b b)]],[],z0b a,z0b b,(2:Int),(0:Int),())=some (z0b (wy a++wy b),z0b a,z0b b,()):=by
  generalize hL:[[D.list false 2 (z0b a)],[D.list false 2 (z0b b)]]=L
  have r0:std.rdL L 0 0=z0b a:=by subst hL; rfl
  have r1:std.rdL L 1 0=z0b b:=by subst hL; rfl
  have k0:std.rowOk L 0 [CK.list 2]=true:=by subst hL; rfl
  have k1:std.rowOk L 1 [CK.list 2]=true:=by subst hL; rfl
  have hl2:L.length=2:=by subst hL; rfl
  have e1:(0:Int).toNat=0:=rfl
  have e2:(1:Int).toNat=1:=rfl
  have v1:IntKind.i64.wrap ((0:Int)+1)=1:=by decide
  have v2:IntKind.i64.wrap ((1:Int)+1)=2:=by decide
  have v1':IntKind.i64.wrap 1=1:=by decide
  have v2':IntKind.i64.wrap 2=2:=by decide
  have t0:y3m it0 std (L,[],z0b a,z0b b,(2:Int),(0:Int),())=some (.inl (L,z0b (wy a),z0b a,z0b b,(2:Int),(1:Int),())):=by
   have hw:=y95 hA sa (by omega) [] (by simp) L (z0b b) (z0b a) 2 0
   have en:z0b []=[]:=rfl
   rw [en] at hw
   simp only [List.nil_append] at hw
   rcases hw with hw|hw
   ·simp only [y3m,it0_eq,z4g,z7s,z5d,z5m,z7e,z9d,y0d,y17,y16,y8g,z4r,z2j,e1,Nat.zero_add,r0,k0,hl2,z0e,hw,Option.bind_some,Sum.elim_inl,Sum.elim_inr,z0f,v1,y4q,y1r]
    simp [v1']
   ·simp only [y3m,it0_eq,z4g,z7s,z5d,z5m,z7e,z9d,y0d,y17,y16,y8g,z4r,z2j,e1,Nat.zero_add,r0,k0,hl2,z0e,hw,Option.bind_some,Sum.elim_inl,Sum.elim_inr,z0f,v1,y4q,y1r]
    simp [v1']
  have t1:y3m it0 std (L,z0b (wy a),z0b a,z0b b,(2:Int),(1:Int),())=some (.inl (L,z0b (wy a++wy b),z0b a,z0b b,(2:Int),(2:Int),())):=by
   have hw:=y95 hB sb' (by omega) (wy a) (by have:=y37 a; omega) L (z0b b) (z0b a) 2 1
   rcases hw with hw|hw
   ·simp only [y3m,it0_eq,z4g,z7s,z5d,z5m,z7e,z9d,y0d,y17,y16,y8g,z4r,z2j,e2,Nat.zero_add,r1,k1,hl2,z0e,hw,Option.bind_some,Sum.elim_inl,Sum.elim_inr,z0f,v2,y4q,y1r]
    simp [v2']
   ·simp only [y3m,it0_eq,z4g,z7s,z5d,z5m,z7e,z9d,y0d,y17,y16,y8g,z4r,z2j,e2,Nat.zero_add,r1,k1,hl2,z0e,hw,Option.bind_some,Sum.elim_inl,Sum.elim_inr,z0f,v2,y4q,y1r]
    simp [v2']
  have t2:y3m it0 std (L,z0b (wy a++wy b),z0b a,z0b b,(2:Int),(2:Int),())=some (.inr (z0b (wy a++wy b),z0b a,z0b b,())):=by
   have c1:¬ (2:Int)<2:=by omega
   simp only [y3m,z01,z02,c1]
  rw [z0k,t0]
  simp only
  rw [z0k,t1]
  simp only
  rw [z0k,t2]
 have h99:=w6p (y03 ka0) (y03 kb0)
 rw [hs0] at h99
 unfold G99 at h99
 have hgrp:=y2k (b:=x2c it0 std) (fun (s:List Pt×Nat)=>(z0b s.1,z0b ws,(ad s0 (z1d (ws.take s.2))).1,(ad s0 (z1d (ws.take s.2))).2,(0:Nat),s.1.length,(ws.length:Int),(s.2:Int),()))
  (fun s=>s.2≤ws.length∧s.1.length≤s.2+1) (fun s=>ws.length - s.2) (fun s=>(z0b (s.1++grp (ad s0 (z1d (ws.take s.2))) (ws.drop s.2)),(0:Nat),(s.1++grp (ad s0 (z1d (ws.take s.2))) (ws.drop s.2)).length,())) (by
  rintro ⟨dn,i⟩ ⟨hi,hdn⟩
  simp only at hi hdn⊢
  by_cases hlt:i<ws.length
  ·left
   obtain ⟨w,hw⟩:=z0q hlt
   have hww:=List.mem_of_getElem? hw
   have gw:=z0w hw
   have e9:=w6p (hnowbox i) (hsm (wbox w hww))
   have hnow:ad (ad s0 (z1d (ws.take i))) w=ad s0 (z1d (ws.take (i+1))):=by
    rw [z1f hw,z2x,z0u,z2c,z1o,z2q]
   rw [hnow] at e9
   unfold G99 at e9
   have hd:=x54 hw
   have c1:(i:Int)<(ws.length:Int):=by omega
   have c2:(i:Int)≥0:=by omega
   have hwr:=z1g (i:=i) (by omega)
   have htk:(z0b dn).take dn.length=z0b dn:=by rw [List.take_of_length_le (by rw [z0e]; omega)]
   have hrow:∀ p:Pt,[D.int IntKind.i64 p.1,D.int IntKind.i64 p.2]=eP p:=fun _=>rfl
   have hap:∀ p:Pt,z0b dn++[eP p]=z0b (dn++[p]):=fun p=>by simp [z0b]
   have hdl:dn.length≤1000:=by omega
   have hdl1:dn.length+1≤1000000:=by omega
   have hal:∀ p:Pt,dn.length+1=(dn++[p]).length:=fun p=>by simp
   by_cases hl:i+1<ws.length
   ·obtain ⟨w',hw'⟩:=z0q hl
    have hww':=List.mem_of_getElem? hw'
    have gw':=z0w hw'
    have hd':=x54 hw'
    have c3:((i+1:Nat):Int)<(ws.length:Int):=by omega
    have c4:((i+1:Nat):Int)≥0:=by omega
    have e8:=w16 (hsm (wbox w hww)) (hsm (wbox w' hww'))
    by_cases hsame:z68 w w'
    ·refine ⟨(dn,i+1),?_,⟨by simp only; omega,by simp only; omega⟩,by simp only; omega,?_⟩
     ·have ht:=(x0f (wnz w hww) (wnz w' hww')).2 hsame
      simp only [x2c,it0_eq,z01,z02,z0p,z1b,z1a,z27,z0v,z0e,z0f,hwr,c1,c2,c3,c4,gw,gw',e8,ht,Int.zero_add,hrow,List.take_succ_cons,List.take_zero,List.drop_zero,Nat.le_refl,e9]
     ·simp only [hd,hd']
      rw [grp,if_pos hsame,hnow, ←hd']
    ·refine ⟨(dn++[ad s0 (z1d (ws.take (i+1)))],i+1),?_,⟨by simp only; omega,by simp; omega⟩,by simp only; omega,?_⟩
     ·have ht:¬ z57 w w'=0:=fun e=>hsame ((x0f (wnz w hww) (wnz w' hww')).1 e)
      have h1:=hap (ad s0 (z1d (ws.take (i+1))))
      have h2:=hal (ad s0 (z1d (ws.take (i+1))))
      simp only [x2c,it0_eq,z01,z02,z0p,z1b,z1a,z27,z0v,z0e,z0f,hwr,c1,c2,c3,c4,gw,gw',e8,ht,Int.zero_add,hrow,List.take_succ_cons,List.take_zero,List.drop_zero,Nat.le_refl,e9,htk,hdl1,h1,h2]
      simp only [List.length_append,List.length_cons,List.length_nil,Nat.zero_add,hdl1,Nat.le_refl,if_true,Option.bind_some,hwr]
     ·simp only [hd,hd']
      rw [grp,if_neg hsame,hnow, ←hd',List.append_assoc]; rfl
   ·have hie:i+1=ws.length:=by omega
    have c3:¬ ((i+1:Nat):Int)<(ws.length:Int):=by omega
    refine ⟨(dn++[ad s0 (z1d (ws.take (i+1)))],i+1),?_,⟨by simp only; omega,by simp; omega⟩,by simp only; omega,?_⟩
    ·have h1:=hap (ad s0 (z1d (ws.take (i+1))))
     have h2:=hal (ad s0 (z1d (ws.take (i+1))))
     simp only [x2c,it0_eq,z01,z02,z0p,z1b,z1a,z27,z0v,z0e,z0f,hwr,c1,c2,c3,gw,Int.zero_add,hrow,List.take_succ_cons,List.take_zero,List.drop_zero,Nat.le_refl,e9,htk,hdl1,h1,h2]
     simp only [List.length_append,List.length_cons,List.length_nil,Nat.zero_add,hdl1,Nat.le_refl,if_true,Option.bind_some,hwr]
    ·have hdn':ws.drop (i+1)=[]:=by rw [hie]; simp
     simp only [hd,hdn',grp,hnow,List.append_nil]
  ·right
   have:i=ws.length:=by omega
   subst this
   have hn:¬ ((ws.length:Int)<(ws.length:Int)):=by omega
   simp only [x2c,z01,z02,hn,List.drop_length,grp,List.append_nil]) ([s0],0) ⟨Nat.zero_le _,by simp⟩
 simp only [List.take_zero,List.drop_zero,z2c,z1o] at hgrp
 unfold G80
 have hg97:v3u it0 std (z0b (wy a++wy b),())=some (z0b ws,()):=hg97
 have e0:std.ofNat 2=(2:Int):=rfl
 have g0a:=z0w ha0
 have g0b:=z0w hb0
 have z0:(0:Int).toNat=0:=rfl
 have hrow:∀ p:Pt,[D.int IntKind.i64 p.1,D.int IntKind.i64 p.2]=eP p:=fun _=>rfl
 have hpl:(wy a++wy b).length=ws.length:=hp.length_eq.symm
 have hs0e:[eP s0]=z0b [s0]:=rfl
 have hl1:([s0]:List Pt).length=1:=rfl
 have k0:((0:Nat):Int)=0:=rfl
 simp only [k0,hl1] at hgrp
 simp only [g80,it0_eq,e0,hways,z0,hg97,z01,z02,z0p,z1b,z1a,z27,z0v,z0e,g0a,g0b,hrow,List.take_succ_cons,List.take_zero,List.drop_zero,Nat.le_refl,h99,hpl,hs0e,hgrp,List.singleton_append,List.length_cons]
 have hgle:=y83 s0 ws
 generalize hgl:(grp s0 ws).length=gl at hgle
 have hm:w3c s0 ws=if 1<gl+1 then (s0::grp s0 ws).dropLast else s0::grp s0 ws:=by rw [w3c,List.length_cons,hgl]
 rw [hm]
 by_cases h1:1<gl+1
 ·have c1:((gl+1:Nat):Int)>1:=by omega
  have v1:IntKind.i64.wrap (((gl+1:Nat):Int) - 1)=(gl:Int):=by rw [z1k]<;>omega
  have c2:(0:Int)≤(gl:Int):=by omega
  have c3:(gl:Int)≤((gl+1:Nat):Int):=by omega
  have c4:gl≤gl+1:=by omega
  simp only [z01,z02,z0p,z1b,z1a,z27,z0v,z0e,c1,z0o,v1,c2,c3,ge_iff_le,Int.le_refl,Int.toNat_zero,Nat.sub_zero,Nat.add_zero,List.length_cons,hgl,c4,List.drop_zero,h1]
  rw [List.dropLast_eq_take]
  simp [z0b,hgl]
 ·have c1:¬ ((gl+1:Nat):Int)>1:=by omega
  simp only [z01,z02,z0p,z1b,z1a,z27,z0v,z0e,c1,List.length_cons,hgl,Nat.le_refl,List.drop_zero,h1]
  rw [List.take_of_length_le (by rw [z0e]; simp [hgl])]
end Go.Am
end
section
namespace M06
theorem x1a {S:List Pt} {e:Pt}:∀ {l:List Pt} {a:Pt},Pth S (a::l++[e])→e∉l→l.Nodup
 |[],_,_,_=> .nil
 |b::l,a,h,hn=>by
  have ih:=x1a (l:=l) (a:=b) h.2 (fun x=>hn (List.mem_cons_of_mem _ x))
  refine List.nodup_cons.2 ⟨fun hb=>?_,ih⟩
  obtain ⟨l2,l3,rfl⟩:=List.append_of_mem hb
  have tl:∀ (u v:List Pt),Pth S (u++v)→Pth S v:=by
   intro u
   induction u with
   |nil=>intro v h; exact h
   |cons x u ih=>intro v h; exact ih v h.tail
  have h1:Pth S (b::(l2++b::l3)++[e]):=h.2
  have h2:Pth S (b::l3++[e]):=by
   refine tl (b::l2) _ ?_
   have:b::(l2++b::l3)++[e]=(b::l2)++(b::l3++[e]):=by simp
   rwa [this] at h1
  have:=y2d h1 h2 (fun x=>hn (List.mem_cons_of_mem _ x)) (fun x=>hn (List.mem_cons_of_mem _ (by simp [x])))
  have:=congrArg List.length this
  simp at this
  omega
theorem y1m {S c:List Pt} (h:Cyc S c):c.Nodup:=by
 match c,h with
 |a::r,h=>
  rcases h.2.2 with ⟨hr,_⟩|⟨_,hp,hn⟩
  ·subst hr; simp
  ·exact List.nodup_cons.2 ⟨hn,x1a hp hn⟩
theorem x1e {α:Type} [DecidableEq α]:∀ {l m:List α},l.Nodup→(∀ x∈l,x∈m)→l.length≤m.length
 |[],m,_,_=>by simp
 |a::l,m,h,hs=>by
  have h1:=List.nodup_cons.1 h
  have:=x1e (l:=l) (m:=m.erase a) h1.2 (fun x hx=>by
   refine (List.mem_erase_of_ne ?_).2 (hs x (List.mem_cons_of_mem _ hx))
   rintro rfl; exact h1.1 hx)
  have ha:a∈m:=hs a (by simp)
  rw [List.length_erase_of_mem ha] at this
  have:0<m.length:=List.length_pos_of_mem ha
  simp only [List.length_cons]; omega
theorem w0z {S c:List Pt} (h:Cyc S c):c.length≤S.length:=x1e (y1m h) (y0q h)
noncomputable def z3t (S:List Pt):List Pt:=Classical.epsilon (Cyc S)
theorem y1p {S:List Pt} (h:S≠[]):Cyc S (z3t S):=by
 obtain ⟨c,hc,_⟩:=y7v h
 exact Classical.epsilon_spec ⟨c,hc⟩
theorem w1n {S c:List Pt} (h:Cyc S c):z3t S=c:=y7u (y1p (w6c h)) h
theorem w9k {S:List Pt} (h:S≠[]):z3t S≠[]:=by
 have:=y1p h
 intro e
 rw [e] at this
 exact this
def z5o (A B:List Pt):List Pt:=A.flatMap fun x=>B.map (ad x)
theorem z8z {A B:List Pt} (z:Pt):z∈z5o A B↔∃ x∈A,∃ y∈B,z=ad x y:=by
 simp only [z5o,List.mem_flatMap,List.mem_map]
 exact ⟨fun ⟨x,hx,y,hy,e⟩=>⟨x,hx,y,hy,e.symm⟩,fun ⟨x,hx,y,hy,e⟩=>⟨x,hx,y,hy,e.symm⟩⟩
theorem w2p {A B:List Pt} (hA:A≠[]) (hB:B≠[]):z5o A B≠[]:=by
 match A,B,hA,hB with
 |a::A,b::B,_,_=>intro h; have:=(z8z (A:=a::A) (B:=b::B) (ad a b)).2 ⟨a,by simp,b,by simp,rfl⟩; rw [h] at this; simp at this
def z1j (l:List Pt) (hs:List (List Pt)):List Pt:=hs.foldl z5o l
theorem z6j (l:List Pt) (hs:List (List Pt)) (h:List Pt):z1j l (hs++[h])=z5o (z1j l hs) h:=by simp [z1j,List.foldl_append]
theorem v0f {l:List Pt} {hs:List (List Pt)} (hl:l≠[]) (hh:∀ h∈hs,h≠[]):z1j l hs≠[]:=by
 induction hs generalizing l with
 |nil=>exact hl
 |cons h hs ih=>exact ih (w2p hl (hh h (by simp))) (fun x hx=>hh x (List.mem_cons_of_mem _ hx))
end M06
end
section
namespace Go.Am
open M06
structure z6k (l:List Pt) (hs:List (List Pt)):Prop where
 many:z6l l
 few:hs.length≤4
 manyH:∀ h∈hs,z6l h
 box:∀ p∈l,z0s 0 1000 p
 boxH:∀ h∈hs,∀ p∈h,z0s (-1000) 1000 p
theorem z3q {l:List Pt} {hs:List (List Pt)}:y1q l hs=0↔z6k l hs:=by
 unfold y1q
 constructor
 ·intro h
  split at h
  ·cases h
  ·rename_i h1
   split at h
   ·cases h
   ·rename_i h2
    simp only [not_or,Classical.not_not,not_exists,not_and] at h1 h2
    exact ⟨h1.1,by omega,fun x hx=>h1.2.2 x hx,h2.1,fun x hx=>h2.2 x hx⟩
 ·intro h
  rw [if_neg,if_neg]
  ·rintro (k|⟨x,hx,k⟩)
   ·exact k h.box
   ·exact k (h.boxH x hx)
  ·rintro (k|k|⟨x,hx,k⟩)
   ·exact k h.many
   ·have:=h.few; omega
   ·exact k (h.manyH x hx)
theorem z6k.ne {l:List Pt} {hs:List (List Pt)} (h:z6k l hs):l≠[]:=by
 rintro rfl; have:=h.many.1; simp at this
theorem z6k.neH {l:List Pt} {hs:List (List Pt)} (h:z6k l hs):∀ x∈hs,x≠[]:=by
 rintro x hx rfl; have:=(h.manyH [] hx).1; simp at this
theorem z6k.allNe {l:List Pt} {hs:List (List Pt)} (h:z6k l hs):z1j l hs≠[]:=v0f h.ne h.neH
theorem w5g {l:List Pt} (hl:∀ p∈l,z0s (-1000) 1000 p):∀ {hs:List (List Pt)},(∀ h∈hs,∀ p∈h,z0s (-1000) 1000 p)→
    ∀ p∈z1j l hs,z0s (-(1000*((hs.length:Int)+1))) (1000*((hs.length:Int)+1)) p:=by
  have main:∀ (n:Nat) (hs:List (List Pt)),hs.length=n→(∀ h∈hs,∀ p∈h,z0s (-1000) 1000 p)→∀ p∈z1j l hs,z0s (-(1000*((hs.length:Int)+1))) (1000*((hs.length:Int)+1)) p:=by
   intro n
   induction n with
   |zero=>intro hs h0 _ p hp; rw [List.length_eq_zero_iff.1 h0] at hp⊢; simpa using hl p hp
   |succ n ih=>
    intro hs hn hh p hp
    rcases List.eq_nil_or_concat hs with rfl|⟨hs,h,rfl⟩
    · simp at hn
    rw [List.concat_eq_append] at*
    have ih:=ih hs (by simpa using hn)
    rw [z6j,z8z] at hp
    obtain ⟨x,hx,y,hy,rfl⟩:=hp
    have h1:=ih (fun h hm=>hh h (List.mem_append_left _ hm)) x hx
    have h2:=hh h (by simp) y hy
    simp only [z0s,ad,List.length_append,List.length_cons,List.length_nil] at*
    omega
  intro hs
  exact main _ hs rfl
theorem z6k.take {l:List Pt} {hs:List (List Pt)} (h:z6k l hs) (i:Nat):z6k l (hs.take i):=
 ⟨h.many,by have:=h.few; simp; omega,fun x hx=>h.manyH x (List.mem_of_mem_take hx),h.box,fun x hx=>h.boxH x (List.mem_of_mem_take hx)⟩
theorem z6k.boxA {l:List Pt} {hs:List (List Pt)} (h:z6k l hs):∀ p∈z1j l hs,z0s (-5000) 5000 p:=by
 intro p hp
 have:=w5g (l:=l) (fun p hp=>by obtain ⟨a,b,c,d⟩:=h.box p hp; exact ⟨by omega,by omega,by omega,by omega⟩) h.boxH p hp
 have h4:=h.few
 simp only [z0s] at*; omega
theorem z6k.cyc {l:List Pt} {hs:List (List Pt)} (h:z6k l hs):Cyc (z1j l hs) (z3t (z1j l hs)):=y1p h.allNe
theorem z6k.cbox {l:List Pt} {hs:List (List Pt)} (h:z6k l hs):∀ p∈z3t (z1j l hs),z0s (-5000) 5000 p:=fun p hp=>h.boxA p (y0q h.cyc p hp)
theorem x6w {x:Pt} {k:Int} (hk:k≤10000) (h:z0s (-k) k x):z3s x:=by
 obtain ⟨h1,h2,h3,h4⟩:=h
 exact ⟨by omega,by omega,by omega,by omega⟩
theorem y3z {hs:List (List Pt)} {i:Nat} {h:List Pt} (hh:hs[i]?=some h):(z0y hs)[i]?=some (eH h):=by simp [z0y,hh]
theorem z31 (hs:List (List Pt)):(z0y hs).length=hs.length:=by simp [z0y]
theorem z3e {hs:List (List Pt)} {i:Nat} {h:List Pt} (hh:hs[i]?=some h):hs.take (i+1)=hs.take i++[h]:=by
 rw [List.take_add_one,hh]; rfl
theorem y26 {l:List Pt} {hs:List (List Pt)} (hf:z6k l hs):
  z4m (x4f it0 std) (z0b l,z0y hs,z0b (z3t l),z0y hs,(hs.length:Int),(0:Int),())=some (z0b l,z0y hs,z0b (z3t (z1j l hs)),())∧(z3t (z1j l hs)).length≤60:=by
 have key:=x93 (b:=x4f it0 std) (fun (i:Nat)=>(z0b l,z0y hs,z0b (z3t (z1j l (hs.take i))),z0y hs,(hs.length:Int),(i:Int),())) (fun i=>i≤hs.length∧(z3t (z1j l (hs.take i))).length≤12*(i+1)) (fun i=>hs.length - i) (fun r=>r=(z0b l,z0y hs,z0b (z3t (z1j l hs)),())∧(z3t (z1j l hs)).length≤60) (fun i ⟨hi,hcl⟩=>by
  by_cases hlt:i<hs.length
  ·left
   obtain ⟨h,hh⟩:=z0q hlt
   have hm:=List.mem_of_getElem? hh
   have gh:=y3z hh
   have h4:=hf.few
   have hmany:=hf.manyH h hm
   obtain ⟨b,hb1,hb2⟩:=w6u (l:=h) hmany.1 hmany.2 (fun x hx=>x6w (k:=1000) (by omega) (hf.boxH h hm x hx))
   have h60:=w6t (l:=h) (by have:=hmany.2; omega)
   have hbl:=w0z hb2
   have hbb:∀ x∈b,z0s (-5000) 5000 x:=fun x hx=>by
    obtain ⟨a1,a2,a3,a4⟩:=hf.boxH h hm x (y0q hb2 x hx)
    exact ⟨by omega,by omega,by omega,by omega⟩
   obtain ⟨c,hc1,hc2,hc3⟩:=v59 (hf.take i).cyc hb2 (hf.take i).cbox hbb (by omega) (by have:=hmany.2; omega)
   have e1:z1j l (hs.take (i+1))=z5o (z1j l (hs.take i)) h:=by rw [z3e hh,z6j]
   have hc:=w1n (hc3 _ z8z)
   have c1:(i:Int)<(hs.length:Int):=by omega
   have c2:(i:Int)≥0:=by omega
   have hw:=z1g (i:=i) (by omega)
   refine ⟨i+1,?_,⟨by omega,?_⟩,by omega⟩
   ·rw [e1,hc]
    have hb1':g59 it0 std (z0b h,())=some (z0b b,()):=hb1
    have h60':g60 it0 std (z0b h,())=some (z0b h,()):=h60
    have hc1':g80 it0 std (z0b (z3t (z1j l (hs.take i))),z0b b,())=some (z0b c,()):=hc1
    simp only [x4f,it0_eq,z01,z02,y6l,z48,c1,c2,z0f,hw,gh,h60',hb1',hc1']
   ·rw [e1,hc]
    have:=hmany.2
    omega
  ·right
   have:i=hs.length:=by omega
   subst this
   have hn:¬ ((hs.length:Int)<(hs.length:Int)):=by omega
   refine ⟨_,?_,rfl,?_⟩
   ·simp only [x4f,z01,z02,hn,List.take_length]
   ·have:=hf.few
    rw [List.take_length] at hcl; omega) 0 ⟨Nat.zero_le _,by
   simp only [List.take_zero]
   have:=w0z (y1p hf.ne)
   have:=hf.many.2
   show (z3t l).length≤_
   omega⟩
 obtain ⟨r,h1,h2,h3⟩:=key
 subst h2
 exact ⟨h1,h3⟩
theorem y90 {l:List Pt} {hs:List (List Pt)} (h:y1q l hs≠0):G48 std (z0b l,z0y hs,())=some (.inl (y1q l hs,())):=by
 unfold G48
 have h18:g18 it0 std (z0b l,z0y hs,())=some (y1q l hs,()):=w6z l hs
 simp only [g48,z01,z02,h18,h,not_false_eq_true]
theorem x2o {l:List Pt} {hs:List (List Pt)} (hf:z6k l hs):G48 std (z0b l,z0y hs,())=some (.inr (z0b l,z0y hs,z0b (z3t (z1j l hs)),0,())):=by
 unfold G48
 have h18:g18 it0 std (z0b l,z0y hs,())=some (y1q l hs,()):=w6z l hs
 rw [z3q.2 hf] at h18
 have hm:=hf.many
 obtain ⟨b,hb1,hb2⟩:=w6u (l:=l) hm.1 hm.2 (fun x hx=>by obtain ⟨a1,a2,a3,a4⟩:=hf.box x hx; exact ⟨by omega,by omega,by omega,by omega⟩)
 rw [←w1n hb2] at hb1
 have hb1':g59 it0 std (z0b l,())=some (z0b (z3t l),()):=hb1
 have h60:g60 it0 std (z0b l,())=some (z0b l,()):=w6t (l:=l) (by have:=hm.2; omega)
 have hl:=(y26 hf).1
 simp only [g48,it0_eq,z01,z02,z31,h18,h60,hb1',hl,not_true]
theorem z9v {l:List Pt} {hs:List (List Pt)} (hf:z6k l hs):(z3t (z1j l hs)).length≤60:=(y26 hf).2
noncomputable def v0e (l:List Pt) (hs:List (List Pt)):List Pt:=if y1q l hs=0 then z3t (z1j l hs) else []
theorem v6h (l:List Pt) (hs:List (List Pt)):G16 std (z0b l,z0y hs,())=some (z0b (v0e l hs),y1q l hs,()):=by
 unfold G16 v0e
 by_cases h:y1q l hs=0
 ·have hf:=z3q.1 h
  have h48:g48 it0 std (z0b l,z0y hs,())=_:=x2o hf
  have hlen:=z9v hf
  generalize hc:z3t (z1j l hs)=c at h48 hlen
  have key:=y2k (b:=w5e std) (fun (i:Nat)=>(z0b (c.take i),z0b c,(c.length:Int),(i:Int),())) (fun i=>i≤c.length) (fun i=>c.length - i) (fun _=>(z0b c,())) (fun i hi=>by
   by_cases hlt:i<c.length
   ·left
    obtain ⟨p,hp⟩:=z0q hlt
    have gp:=z0w hp
    have c1:(i:Int)<(c.length:Int):=by omega
    have c2:(i:Int)≥0:=by omega
    have hw:=z1g (i:=i) (by omega)
    have htk:(z0b (c.take i)).take (c.take i).length=z0b (c.take i):=by rw [List.take_of_length_le (by rw [z0e]; omega)]
    have hap:z0b (c.take i)++[eP p]=z0b (c.take (i+1)):=by rw [z1f hp]; simp [z0b]
    have hl1:(c.take i).length+1≤1000000:=by simp; omega
    have hl2:(c.take i).length+1=(c.take (i+1)).length:=by rw [z1f hp]; simp
    have hl3:(c.take (i+1)).length≤1000000:=by simp; omega
    refine ⟨i+1,?_,by omega,by omega,rfl⟩
    simp only [w5e,z01,z02,z0p,z1b,z1a,z27,z0v,z0e,z0f,hw,c1,c2,gp,htk,hap,hl1,hl2,hl3,List.drop_zero,List.take_succ_cons,List.take_zero,Nat.le_refl]
   ·right
    have:i=c.length:=by omega
    subst this
    have hn:¬ ((c.length:Int)<(c.length:Int)):=by omega
    simp only [w5e,z01,z02,hn,List.take_length]) 0 (Nat.zero_le _)
  have e0:z0b (c.take 0)=[]:=rfl
  have k0:((0:Nat):Int)=0:=rfl
  rw [e0,k0] at key
  simp only [g16,it0_eq,z01,z02,h48,z0e,key,h,not_true]
 ·have h48:g48 it0 std (z0b l,z0y hs,())=_:=y90 h
  simp only [g16,z01,z02,h48,h,not_false_eq_true]
  rfl
end Go.Am
end
section
namespace M06
theorem w7n {S:List Pt} {a b x:Pt} (h:Nx S a b) (hx:x∈S) (z:cr a b x=0) (hf:far a b≤far a x):x=b:=by
 have h0:=(h.2.2 x hx).2 z
 have d1:=(y5k h.2.1 z h0.1).1 h0.2
 have hne:sb b a≠(0,0):=fun e=>h.2.1 (z2h.1 e).symm
 have hp:=z1e hne
 have hl:=lag (sb b a) (sb x a)
 have z':crs (sb b a) (sb x a)=0:=z
 rw [z'] at hl
 have e1:far a x=dt (sb x a) (sb x a):=by simp only [far,dt,sb]; grind
 have e2:far a b=dt (sb b a) (sb b a):=by simp only [far,dt,sb]; grind
 have e3:dt (sb b a) (sb b x)=dt (sb b a) (sb b a) - dt (sb b a) (sb x a):=by simp only [dt,sb]; grind
 have e4:dt (sb b x) (sb b x)=dt (sb b a) (sb b a)+dt (sb x a) (sb x a) - 2*dt (sb b a) (sb x a):=by simp only [dt,sb]; grind
 have hm:=h0.1
 refine Classical.byContradiction fun hn=>?_
 have hq:=z1e (u:=sb b x) (fun e=>hn (z2h.1 e).symm)
 rw [e1,e2] at hf
 generalize dt (sb b a) (sb x a)=m at*
 generalize dt (sb b a) (sb b a)=n at*
 generalize dt (sb x a) (sb x a)=k at*
 have h1:n*n≤m*m:=by
  have:=Int.mul_le_mul_of_nonneg_left hf (Int.le_of_lt hp)
  omega
 have h2:=y8y hm h1
 have h3:m=n:=by omega
 subst h3
 have:m*k=m*m:=by omega
 have hk:k=m:=by
  have h5:m*(k - m)=0:=by rw [Int.mul_sub]; omega
  rcases Int.mul_eq_zero.1 h5 with h|h<;>omega
 omega
theorem x9h {S:List Pt}:∀ {l:List Pt} {i:Nat} {a b:Pt},Pth S l→l[i]?=some a→l[i+1]?=some b→Nx S a b
 |[],i,a,b,_,h,_=>by simp at h
 |[x],i,a,b,_,_,h=>by simp at h
 |x::y::l,0,a,b,h,h1,h2=>by
  simp at h1 h2; subst h1; subst h2; exact h.1
 |x::y::l,i+1,a,b,h,h1,h2=>x9h (l:=y::l) (i:=i) h.2 (by simpa using h1) (by simpa using h2)
theorem y5q {S c:List Pt} (h:Cyc S c) (h2:2≤c.length) {i:Nat} {a b:Pt} (ha:c[i]?=some a) (hb:c[(i+1) % c.length]?=some b):Nx S a b:=by
 match c,h2,h with
 |x::y::r,_,h=>
  have hp:Pth S (x::y::r++[x]):=by
   rcases h.2.2 with ⟨h,_⟩|⟨_,h,_⟩
   ·cases h
   ·exact h
  have hi:i<(x::y::r).length:=(List.getElem?_eq_some_iff.1 ha).1
  refine x9h hp (by rw [List.getElem?_append_left hi]; exact ha) ?_
  by_cases hl:i+1<(x::y::r).length
  ·rw [List.getElem?_append_left hl]
   rwa [Nat.mod_eq_of_lt hl] at hb
  ·have he:i+1=(x::y::r).length:=by omega
   rw [he,Nat.mod_self] at hb
   rw [List.getElem?_append_right (by omega),he]
   simp at hb⊢; exact hb
end M06
end
section
namespace Go.Am
open M06
theorem x6n {A B:List Pt} {k:Nat} {a:Pt} (h:A[k]?=some a):z5o (A.take (k+1)) B=z5o (A.take k) B++B.map (ad a):=by
 rw [z1f h]
 simp [z5o]
theorem x0i (A B:List Pt):(z5o A B).length=A.length*B.length:=by
 induction A with
 |nil=>simp [z5o]
 |cons a A ih=>
  have:z5o (a::A) B=B.map (ad a)++z5o A B:=rfl
  rw [this,List.length_append,ih,List.length_map,List.length_cons,Nat.add_mul,Nat.one_mul,Nat.add_comm]
end Go.Am
end
noncomputable section
namespace Go.Am
def w04:Ctr:=
 ⟨57,[.list 2, .agg [.int .i64, .int .i64], .int .i64],[],[(.ret,⟨[(0, .bool)],[],1⟩)]⟩
def la57:List LA:=
 [⟨94,[false,true],7,⟨⟨[(0, .yld 6),(1, .bptr 5 0),(6, .list 2),(7, .int .i64),(8, .int .i64)],[.box [.list 2], .box [.int .i64, .int .i64], .box [.int .i64], .box [.bool], .box [.clo 84 [] [.bptr 2 0]], .box [.list 2], .loop Go.LoopState.ready Option.none 57 [Bool.false,Bool.true,Bool.false,Bool.true,Bool.true,Bool.true] 47 [(22, .clo 94 [] [.bptr 5 0]),(4, .bptr 1 0),(3, .bptr 0 0),(7, .bptr 4 0),(6, .bptr 3 0)]],33⟩,[(AX.ret,⟨[],[.box [.list 2], .box [.int .i64, .int .i64], .box [.int .i64], .box [.bool], .box [.clo 84 [] [.bptr 2 0]], .box [.list 2], .loop Go.LoopState.ready Option.none 57 [Bool.false,Bool.true,Bool.false,Bool.true,Bool.true,Bool.true] 47 [(22, .clo 94 [] [.bptr 5 0]),(4, .bptr 1 0),(3, .bptr 0 0),(7, .bptr 4 0),(6, .bptr 3 0)]],33⟩),(AX.ret,⟨[],[.box [.list 2], .box [.int .i64, .int .i64], .box [.int .i64], .box [.bool], .box [.clo 84 [] [.bptr 2 0]], .box [.list 2], .loop Go.LoopState.done (Option.some Go.Code.ret) 57 [Bool.false,Bool.true,Bool.false,Bool.true,Bool.true,Bool.true] 47 [(22, .clo 94 [] [.bptr 5 0]),(4, .bptr 1 0),(3, .bptr 0 0),(7, .bptr 4 0),(6, .bptr 3 0)]],33⟩),((AX.exit 0),⟨[],[.box [.list 2], .box [.int .i64, .int .i64], .box [.int .i64], .box [.bool], .box [.clo 84 [] [.bptr 2 0]], .box [.list 2], .loop Go.LoopState.ready Option.none 57 [Bool.false,Bool.true,Bool.false,Bool.true,Bool.true,Bool.true] 47 [(22, .clo 94 [] [.bptr 5 0]),(4, .bptr 1 0),(3, .bptr 0 0),(7, .bptr 4 0),(6, .bptr 3 0)]],33⟩)]⟩⟩]
def ja57:List JA:=
 [⟨57,[true,false,true,true,true],0,[(AX.normal,⟨[(6, .bptr 0 0)],[.box [.bool]],47⟩),(AX.ret,⟨[(6, .bptr 0 0)],[.box [.bool]],47⟩)]⟩,
 ⟨57,[false,true,false,true,false,true,false,true,true,true],19,[(AX.normal,⟨[(3, .bptr 0 0),(4, .bptr 1 0),(6, .bptr 3 0),(7, .bptr 4 0),(46, .bool)],[.box [.list 2], .box [.int .i64, .int .i64], .box [.int .i64], .box [.bool], .box [.clo 84 [] [.bptr 2 0]], .box [.list 2], .dead, .box [.int .i64, .int .i64], .dead, .dead, .dead, .dead, .dead, .dead, .dead, .dead, .dead, .dead, .box [.int .i64, .int .i64]],47⟩)]⟩]
def v9n:List CF:=
 []
def an57:Anns:=
 ⟨v9n,ja57,[]⟩
def x4i (p:Prim):(LD×T78)→Option ((LD×T78)⊕((LD×T16)⊕((LD×T16)⊕(LD×T16)))):=
 fun a=>opt.run _ (
 opt.ask _ (p.cmp .lss a.2.2.2.2.2.2.2.2.1 a.2.2.2.2.2.2.2.1) (
 opt.need _ (p.rowOk a.2.2.2.2.2.2.1 (p.nat a.2.2.2.2.2.2.2.2.1) [ci,ci])<|
 opt.need _ (p.cmp .geq a.2.2.2.2.2.2.2.2.1 (0:Int))<|
 opt.need _ (p.cmp .neq (p.ofNat (p.len a.2.2.2.2.2.1)) (0:Int))<|
 opt.need _ (p.rowOk a.2.2.2.2.2.1 (p.nat (p.ar .rem .i64 (p.ar .add .i64 a.2.2.2.2.2.2.2.2.1 (1:Int)) (p.ofNat (p.len a.2.2.2.2.2.1)))) [ci,ci])<|
 opt.need _ (p.cmp .geq (p.ar .rem .i64 (p.ar .add .i64 a.2.2.2.2.2.2.2.2.1 (1:Int)) (p.ofNat (p.len a.2.2.2.2.2.1))) (0:Int))<|
 opt.ask _ (bif (p.cmp .eql (p.ar .sub .i64 (p.rdI a.2.2.2.2.2.1 (p.nat (p.ar .rem .i64 (p.ar .add .i64 a.2.2.2.2.2.2.2.2.1 (1:Int)) (p.ofNat (p.len a.2.2.2.2.2.1)))) 0) (p.rdI a.2.2.2.2.2.2.1 (p.nat a.2.2.2.2.2.2.2.2.1) 0)) (0:Int)) then (bif (p.cmp .eql (p.ar .sub .i64 (p.rdI a.2.2.2.2.2.1 (p.nat (p.ar .rem .i64 (p.ar .add .i64 a.2.2.2.2.2.2.2.2.1 (1:Int)) (p.ofNat (p.len a.2.2.2.2.2.1)))) 1) (p.rdI a.2.2.2.2.2.2.1 (p.nat a.2.2.2.2.2.2.2.2.1) 1)) (0:Int)) then Bool.true else Bool.false) else Bool.false) (
 opt.ret _ (Sum.inr (Sum.inl (a.1,(a.2.1,(a.2.2.1,(a.2.2.2.1,(a.2.2.2.2.1,(a.2.2.2.2.2.1,()))))))))) (
 opt.need _ (p.and Bool.true (p.and Bool.true Bool.true))<|
 opt.bnd ((LD×T79)) _ (
 opt.run ((LD×T79)) (
 opt.ask _ (p.cmp .lss (p.ar .sub .i64 (p.ar .mul .i64 (p.ar .sub .i64 (p.rdI a.2.2.2.2.2.1 (p.nat (p.ar .rem .i64 (p.ar .add .i64 a.2.2.2.2.2.2.2.2.1 (1:Int)) (p.ofNat (p.len a.2.2.2.2.2.1)))) 0) (p.rdI a.2.2.2.2.2.2.1 (p.nat a.2.2.2.2.2.2.2.2.1) 0)) (p.ar .sub .i64 a.2.2.1 (p.ar .mul .i64 (p.rdI a.2.2.2.2.2.2.1 (p.nat a.2.2.2.2.2.2.2.2.1) 1) a.2.2.2.1))) (p.ar .mul .i64 (p.ar .sub .i64 (p.rdI a.2.2.2.2.2.1 (p.nat (p.ar .rem .i64 (p.ar .add .i64 a.2.2.2.2.2.2.2.2.1 (1:Int)) (p.ofNat (p.len a.2.2.2.2.2.1)))) 1) (p.rdI a.2.2.2.2.2.2.1 (p.nat a.2.2.2.2.2.2.2.2.1) 1)) (p.ar .sub .i64 a.2.1 (p.ar .mul .i64 (p.rdI a.2.2.2.2.2.2.1 (p.nat a.2.2.2.2.2.2.2.2.1) 0) a.2.2.2.1)))) (0:Int)) (
 opt.ret _ (a.1,(a.2.1,(a.2.2.1,(a.2.2.2.1,(a.2.2.2.2.1,(a.2.2.2.2.2.1,((p.rdI a.2.2.2.2.2.2.1 (p.nat a.2.2.2.2.2.2.2.2.1) 0),((p.rdI a.2.2.2.2.2.2.1 (p.nat a.2.2.2.2.2.2.2.2.1) 1),((p.ar .sub .i64 (p.rdI a.2.2.2.2.2.1 (p.nat (p.ar .rem .i64 (p.ar .add .i64 a.2.2.2.2.2.2.2.2.1 (1:Int)) (p.ofNat (p.len a.2.2.2.2.2.1)))) 0) (p.rdI a.2.2.2.2.2.2.1 (p.nat a.2.2.2.2.2.2.2.2.1) 0)),((p.ar .sub .i64 (p.rdI a.2.2.2.2.2.1 (p.nat (p.ar .rem .i64 (p.ar .add .i64 a.2.2.2.2.2.2.2.2.1 (1:Int)) (p.ofNat (p.len a.2.2.2.2.2.1)))) 1) (p.rdI a.2.2.2.2.2.2.1 (p.nat a.2.2.2.2.2.2.2.2.1) 1)),(Bool.true,())))))))))))) (
 opt.ask _ (p.cmp .eql (p.ofNat (p.len a.1)) (2:Int)) (
 opt.ret _ (a.1,(a.2.1,(a.2.2.1,(a.2.2.2.1,(a.2.2.2.2.1,(a.2.2.2.2.2.1,((p.rdI a.2.2.2.2.2.2.1 (p.nat a.2.2.2.2.2.2.2.2.1) 0),((p.rdI a.2.2.2.2.2.2.1 (p.nat a.2.2.2.2.2.2.2.2.1) 1),((p.ar .sub .i64 (p.rdI a.2.2.2.2.2.1 (p.nat (p.ar .rem .i64 (p.ar .add .i64 a.2.2.2.2.2.2.2.2.1 (1:Int)) (p.ofNat (p.len a.2.2.2.2.2.1)))) 0) (p.rdI a.2.2.2.2.2.2.1 (p.nat a.2.2.2.2.2.2.2.2.1) 0)),((p.ar .sub .i64 (p.rdI a.2.2.2.2.2.1 (p.nat (p.ar .rem .i64 (p.ar .add .i64 a.2.2.2.2.2.2.2.2.1 (1:Int)) (p.ofNat (p.len a.2.2.2.2.2.1)))) 1) (p.rdI a.2.2.2.2.2.2.1 (p.nat a.2.2.2.2.2.2.2.2.1) 1)),((p.cmp .lss (p.ar .add .i64 (p.ar .mul .i64 (p.ar .sub .i64 (p.rdI a.2.2.2.2.2.1 (p.nat (p.ar .rem .i64 (p.ar .add .i64 a.2.2.2.2.2.2.2.2.1 (1:Int)) (p.ofNat (p.len a.2.2.2.2.2.1)))) 0) (p.rdI a.2.2.2.2.2.2.1 (p.nat a.2.2.2.2.2.2.2.2.1) 0)) (p.ar .sub .i64 a.2.1 (p.ar .mul .i64 (p.rdI a.2.2.2.2.2.2.1 (p.nat a.2.2.2.2.2.2.2.2.1) 0) a.2.2.2.1))) (p.ar .mul .i64 (p.ar .sub .i64 (p.rdI a.2.2.2.2.2.1 (p.nat (p.ar .rem .i64 (p.ar .add .i64 a.2.2.2.2.2.2.2.2.1 (1:Int)) (p.ofNat (p.len a.2.2.2.2.2.1)))) 1) (p.rdI a.2.2.2.2.2.2.1 (p.nat a.2.2.2.2.2.2.2.2.1) 1)) (p.ar .sub .i64 a.2.2.1 (p.ar .mul .i64 (p.rdI a.2.2.2.2.2.2.1 (p.nat a.2.2.2.2.2.2.2.2.1) 1) a.2.2.2.1)))) (0:Int)),())))))))))))) (
 opt.ret _ (a.1,(a.2.1,(a.2.2.1,(a.2.2.2.1,(a.2.2.2.2.1,(a.2.2.2.2.2.1,((p.rdI a.2.2.2.2.2.2.1 (p.nat a.2.2.2.2.2.2.2.2.1) 0),((p.rdI a.2.2.2.2.2.2.1 (p.nat a.2.2.2.2.2.2.2.2.1) 1),((p.ar .sub .i64 (p.rdI a.2.2.2.2.2.1 (p.nat (p.ar .rem .i64 (p.ar .add .i64 a.2.2.2.2.2.2.2.2.1 (1:Int)) (p.ofNat (p.len a.2.2.2.2.2.1)))) 0) (p.rdI a.2.2.2.2.2.2.1 (p.nat a.2.2.2.2.2.2.2.2.1) 0)),((p.ar .sub .i64 (p.rdI a.2.2.2.2.2.1 (p.nat (p.ar .rem .i64 (p.ar .add .i64 a.2.2.2.2.2.2.2.2.1 (1:Int)) (p.ofNat (p.len a.2.2.2.2.2.1)))) 1) (p.rdI a.2.2.2.2.2.2.1 (p.nat a.2.2.2.2.2.2.2.2.1) 1)),(Bool.false,()))))))))))))))) fun b=>
 opt.ask _ b.2.2.2.2.2.2.2.2.2.2.1 (
 opt.ret _ (Sum.inr (Sum.inr (Sum.inl (b.1,(b.2.1,(b.2.2.1,(b.2.2.2.1,(Bool.false,(b.2.2.2.2.2.1,())))))))))) (
 opt.ret _ (Sum.inl (b.1,(b.2.1,(b.2.2.1,(b.2.2.2.1,(b.2.2.2.2.1,(b.2.2.2.2.2.1,(a.2.2.2.2.2.2.1,(a.2.2.2.2.2.2.2.1,((p.ar .add .i64 a.2.2.2.2.2.2.2.2.1 (1:Int)),()))))))))))))) (
 opt.ret _ (Sum.inr (Sum.inr (Sum.inr (a.1,(a.2.1,(a.2.2.1,(a.2.2.2.1,(a.2.2.2.2.1,(a.2.2.2.2.2.1,())))))))))))
def g57 (it:It):(p:Prim)→(LD×T6)→Option T1:=
 fun p x=>
 opt.ask _ (p.cmp .eql (p.ofNat (p.len x.1)) (1:Int)) (
 opt.need _ (p.rowOk x.1 (p.nat (0:Int)) [ci,ci])<|
 opt.need _ (p.and Bool.true (p.and Bool.true Bool.true))<|
 opt.ret _ ((bif (p.cmp .eql x.2.1 (p.ar .mul .i64 (p.rdI x.1 (p.nat (0:Int)) 0) x.2.2.2.1)) then (bif (p.cmp .eql x.2.2.1 (p.ar .mul .i64 (p.rdI x.1 (p.nat (0:Int)) 1) x.2.2.2.1)) then Bool.true else Bool.false) else Bool.false),())) (
 opt.alt T1 T1 _ (
 opt.run (((Bool×Unit)⊕(Bool×Unit))) (
 opt.alt ((LD×T16)) (((LD×T16)⊕(LD×T16))) _ (
 it _ _ (x4i p) (x.1,(x.2.1,(x.2.2.1,(x.2.2.2.1,(Bool.false,(x.1,(x.1,((p.ofNat (p.len x.1)),((0:Int),())))))))))) (fun a=>
 opt.ret _ (Sum.inl (a.2.2.2.2.1,()))) (fun b=>
 opt.alt ((LD×T16)) ((LD×T16)) _ (some b) (fun c=>
 opt.ret _ (Sum.inr (c.2.2.2.2.1,()))) (fun d=>
 opt.bnd ((LD×T16)) _ (some d) fun e=>
 opt.ret _ (Sum.inl (e.2.2.2.2.1,())))))) (fun f=>
 opt.ret _ (Bool.true,())) (fun g=>
 opt.bnd T1 _ (some g) fun h=>
 opt.ret _ (h.1,())))
def G57:=g57 it0
theorem v61:CtrOk PG w04 (G57 std):=okF (a:=an57) (l:=la57) (gN) (by kernel_rfl) fun _ _=>by kernel_rfl
def w89:Ctr:=
 ⟨77,[.int .i64],[],[(.ret,⟨[(0, .int .i64)],[],1⟩)]⟩
def la77:List LA:=
 []
def ja77:List JA:=
 []
def v9a:List CF:=
 []
def an77:Anns:=
 ⟨v9a,ja77,[]⟩
def G77:(p:Prim)→T2→Option T0:=
 fun p x=>
 opt.ret _ ((p.mm .gtr x.1 (p.ar .sub .i64 (0:Int) x.1)),())
theorem u1s:CtrOk PG w89 (G77 std):=okF (a:=an77) (l:=la77) (gN) (by kernel_rfl) fun _ _=>by kernel_rfl
def w88:Ctr:=
 ⟨93,[.list 1],[],[(.ret,⟨[(0, .int .i64)],[],1⟩)]⟩
def la93:List LA:=
 [⟨93,[false,true,false,true,true],0,⟨⟨[(3, .int .i64),(6, .list 1),(7, .int .i64),(8, .int .i64)],[],22⟩,[((AX.exit 0),⟨[(3, .int .i64)],[],22⟩)]⟩⟩,
 ⟨93,[false,true,true,false,false,true,true,false,false,true,false,true,true],0,⟨⟨[(3, .int .i64),(5, .int .i64),(6, .list 1),(7, .int .i64),(8, .int .i64)],[],22⟩,[((AX.exit 2),⟨[(3, .int .i64),(6, .list 1),(7, .int .i64),(8, .int .i64)],[],22⟩)]⟩⟩]
def ja93:List JA:=
 []
def v80:List CF:=
 [⟨w89,G77⟩]
def an93:Anns:=
 ⟨v80,ja93,[]⟩
def u0q (p:Prim):T69→Option ((Int×(Int×(LD×(Int×(Int×Unit)))))⊕(Int×(LD×(Int×(Int×Unit))))):=
 fun a=>opt.run _ (
 opt.ask _ (p.cmp .neq a.2.1 (0:Int)) (
 opt.need _ (p.cmp .neq a.2.1 (0:Int))<|
 opt.ret _ (Sum.inl (a.2.1,((p.ar .rem .i64 a.1 a.2.1),(a.2.2.1,(a.2.2.2.1,(a.2.2.2.2.1,()))))))) (
 opt.ret _ (Sum.inr (a.1,(a.2.2.1,(a.2.2.2.1,(a.2.2.2.2.1,())))))))
def w9n (it:It) (p:Prim):T64→Option ((Int×(LD×(Int×(Int×Unit))))⊕(Int×Unit)):=
 fun a=>opt.run _ (
 opt.ask _ (p.cmp .lss a.2.2.2.1 a.2.2.1) (
 opt.need _ (p.rowOk a.2.1 (p.nat a.2.2.2.1) [ci])<|
 opt.need _ (p.cmp .geq a.2.2.2.1 (0:Int))<|
 opt.bnd T0 _ (G77 p ((p.rdI a.2.1 (p.nat a.2.2.2.1) 0),())) fun b=>
 opt.bnd ((Int×(LD×(Int×(Int×Unit))))) _ (
 it _ _ (u0q p) (a.1,(b.1,(a.2.1,(a.2.2.1,(a.2.2.2.1,())))))) fun c=>
 opt.ret _ (Sum.inl (c.1,(c.2.1,(c.2.2.1,((p.ar .add .i64 c.2.2.2.1 (1:Int)),())))))) (
 opt.ret _ (Sum.inr (a.1,()))))
def g93 (it:It):(p:Prim)→(LD×Unit)→Option T0:=
 fun p x=>
 opt.bnd T0 _ (
 it _ _ (w9n it p) ((0:Int),(x.1,((p.ofNat (p.len x.1)),((0:Int),()))))) fun a=>
 opt.ret _ (a.1,())
def G93:=g93 it0
theorem u1q:CtrOk PG w88 (G93 std):=okF (a:=an93) (l:=la93) (gC u1s (gN)) (by kernel_rfl) fun _ _=>by kernel_rfl
def w9b:Ctr:=
 ⟨65,[.int .i64, .int .i64],[],[(.ret,⟨[(0, .agg [.int .i64, .int .i64])],[],1⟩)]⟩
def la65:List LA:=
 []
def ja65:List JA:=
 []
def v9h:List CF:=
 [⟨w88,G93⟩]
def an65:Anns:=
 ⟨v9h,ja65,[]⟩
def g65 (it:It):(p:Prim)→T4→Option T5:=
 fun p x=>
 opt.need _ (p.and (p.leN (p.add 0 2) (p.len [[(D.int .i64 x.1)],[(D.int .i64 x.2.1)]])) Bool.true)<|
 opt.bnd T0 _ (g93 it p ((p.cut [[(D.int .i64 x.1)],[(D.int .i64 x.2.1)]] 0 2),())) fun a=>
 opt.need _ (p.cmp .neq a.1 (0:Int))<|
 opt.need _ (p.cmp .neq a.1 (0:Int))<|
 opt.ret _ ((p.ar .quo .i64 x.1 a.1),((p.ar .quo .i64 x.2.1 a.1),()))
def G65:=g65 it0
theorem u1u:CtrOk PG w9b (G65 std):=okF (a:=an65) (l:=la65) (gC u1q (gN)) (by kernel_rfl) fun _ _=>by kernel_rfl
def z40:Ctr:=
 ⟨71,[.agg [.int .i64, .int .i64], .agg [.int .i64, .int .i64]],[],[(.ret,⟨[(0, .bool)],[],1⟩)]⟩
def la71:List LA:=
 []
def ja71:List JA:=
 [⟨71,[false,false,true,true,true,true],0,[(AX.normal,⟨[(2, .bptr 0 0),(3, .bptr 1 0),(7, .int .i64),(8, .int .i64),(40, .bool)],[.box [.int .i64, .int .i64], .box [.int .i64, .int .i64]],53⟩)]⟩]
def w8i:(Prim→Tup (z40).scs→Option (STup (scss (z40).outs)))→List CF:=
 fun R=>[⟨z40,R⟩]
def an71:(Prim→Tup (z40).scs→Option (STup (scss (z40).outs)))→Anns:=
 fun R=>⟨w8i R,ja71,[]⟩
def G71:(Prim→Tup (z40).scs→Option (STup (scss (z40).outs)))→(p:Prim)→T14→Option T1:=
 fun R=>fun p x=>
 opt.need _ (p.cmp .neq x.2.1 (0:Int))<|
 opt.need _ (p.cmp .neq x.2.2.2.1 (0:Int))<|
 opt.ask _ (p.cmp .neq (p.ar .quo .i64 x.1 x.2.1) (p.ar .quo .i64 x.2.2.1 x.2.2.2.1)) (
 opt.ret _ ((p.cmp .lss (p.ar .quo .i64 x.1 x.2.1) (p.ar .quo .i64 x.2.2.1 x.2.2.2.1)),())) (
 opt.need _ (p.cmp .neq x.2.1 (0:Int))<|
 opt.need _ (p.cmp .neq x.2.2.2.1 (0:Int))<|
 opt.bnd T61 _ (
 opt.run T61 (
 opt.ask _ (p.cmp .eql (p.ar .rem .i64 x.1 x.2.1) (0:Int)) (
 opt.ret _ (x.1,(x.2.1,(x.2.2.1,(x.2.2.2.1,((p.ar .rem .i64 x.1 x.2.1),((p.ar .rem .i64 x.2.2.1 x.2.2.2.1),(Bool.true,())))))))) (
 opt.ret _ (x.1,(x.2.1,(x.2.2.1,(x.2.2.2.1,((p.ar .rem .i64 x.1 x.2.1),((p.ar .rem .i64 x.2.2.1 x.2.2.2.1),((p.cmp .eql (p.ar .rem .i64 x.2.2.1 x.2.2.2.1) (0:Int)),())))))))))) fun a=>
 opt.ask _ a.2.2.2.2.2.2.1 (
 opt.ret _ ((p.cmp .lss a.2.2.2.2.1 a.2.2.2.2.2.1),())) (
 opt.bnd T1 _ (R p (a.2.2.2.1,(a.2.2.2.2.2.1,(a.2.1,(a.2.2.2.2.1,()))))) fun b=>
 opt.ret _ (b.1,())))
def u1l:Nat→Prim→Tup (z40).scs→Option (STup (scss (z40).outs)):=
 fun n=>Nat.rec (motive:=fun _=>(Prim→Tup (z40).scs→Option (STup (scss (z40).outs)))) (fun _ _=>none) (fun _ f p x=>G71 f p x) n
def F71:Prim→Tup (z40).scs→Option (STup (scss (z40).outs)):=
 u1l 100
theorem eq71 (R:(Prim→Tup (z40).scs→Option (STup (scss (z40).outs)))) (p:Prim) (x:Tup (z40).scs):bodyRun opt p (autoEnv Go.Proofs.Try.prog) (mkOrc opt p (autoEnv Go.Proofs.Try.prog) 400 (an71 R) la71) 400 z40 x=G71 R p x:=by kernel_rfl
theorem v8w (R:(Prim→Tup (z40).scs→Option (STup (scss (z40).outs)))) (hR:CtrOk Go.Proofs.Try.prog z40 (R std)):GamOk Go.Proofs.Try.prog (w8i R):=by
 intro cf h
 simp only [w8i,List.mem_cons,List.not_mem_nil,or_false] at h
 rcases h with rfl
 ·exact hR
theorem x50:z29 Go.Proofs.Try.prog 71:=enters_auto (b:=_) rfl (by kernel_rfl)
theorem x9q (R:(Prim→Tup (z40).scs→Option (STup (scss (z40).outs)))) (hR:CtrOk Go.Proofs.Try.prog z40 (R std)):CtrOk Go.Proofs.Try.prog z40 (fun x=>G71 R std x):=ctr_of_body (autoEnv_ok follows_mixed) (mkOrc_ok (autoEnv_ok follows_mixed) (v8w R hR) _) x50 (fun x=>eq71 R std x)
theorem w52:∀ n,CtrOk Go.Proofs.Try.prog z40 (u1l n std)
 |0=>⟨x50,fun x y h=>nomatch h⟩
 |n+1=>x9q (u1l n) (w52 n)
theorem ok71:CtrOk Go.Proofs.Try.prog z40 (F71 std):=w52 100
def v4n:Ctr:=
 ⟨76,[.agg [.int .i64, .int .i64, .int .i64, .int .i64], .agg [.int .i64, .int .i64, .int .i64, .int .i64]],[],[(.ret,⟨[(0, .tuple [.agg [.int .i64, .int .i64, .int .i64], .bool])],[],1⟩)]⟩
def la76:List LA:=
 []
def ja76:List JA:=
 [⟨76,[true,false,true,true,true,true],0,[(AX.normal,⟨[(2, .bptr 0 0),(4, .bptr 1 0),(6, .int .i64),(8, .int .i64),(9, .int .i64)],[.box [.int .i64, .int .i64, .int .i64, .int .i64], .box [.int .i64, .int .i64, .int .i64]],101⟩)]⟩,
 ⟨76,[false,false,true,true,true,true,true],0,[(AX.normal,⟨[(2, .bptr 0 0),(4, .bptr 1 0),(6, .int .i64),(8, .int .i64),(57, .bool)],[.box [.int .i64, .int .i64, .int .i64, .int .i64], .box [.int .i64, .int .i64, .int .i64]],101⟩)]⟩]
def v9b:List CF:=
 [⟨w88,G93⟩]
def an76:Anns:=
 ⟨v9b,ja76,[]⟩
def g76 (it:It):(p:Prim)→(Int×(Int×(Int×(Int×(Int×(Int×(Int×(Int×Unit))))))))→Option T27:=
 fun p x=>
 opt.bnd T80 _ (
 opt.run T80 (
 opt.ask _ (p.cmp .lss (p.ar .sub .i64 (p.ar .mul .i64 x.2.2.1 x.2.2.2.2.2.2.2.1) (p.ar .mul .i64 x.2.2.2.1 x.2.2.2.2.2.2.1)) (0:Int)) (
 opt.ret _ (x.1,(x.2.1,(x.2.2.1,(x.2.2.2.1,((0:Int),((0:Int),((0:Int),((p.ar .sub .i64 (0:Int) (p.ar .sub .i64 (p.ar .mul .i64 x.2.2.1 x.2.2.2.2.2.2.2.1) (p.ar .mul .i64 x.2.2.2.1 x.2.2.2.2.2.2.1))),((p.ar .sub .i64 (0:Int) (p.ar .sub .i64 (p.ar .mul .i64 (p.ar .sub .i64 x.2.2.2.2.1 x.1) x.2.2.2.2.2.2.2.1) (p.ar .mul .i64 (p.ar .sub .i64 x.2.2.2.2.2.1 x.2.1) x.2.2.2.2.2.2.1))),((p.ar .sub .i64 (0:Int) (p.ar .sub .i64 (p.ar .mul .i64 (p.ar .sub .i64 x.2.2.2.2.1 x.1) x.2.2.2.1) (p.ar .mul .i64 (p.ar .sub .i64 x.2.2.2.2.2.1 x.2.1) x.2.2.1))),()))))))))))) (
 opt.ret _ (x.1,(x.2.1,(x.2.2.1,(x.2.2.2.1,((0:Int),((0:Int),((0:Int),((p.ar .sub .i64 (p.ar .mul .i64 x.2.2.1 x.2.2.2.2.2.2.2.1) (p.ar .mul .i64 x.2.2.2.1 x.2.2.2.2.2.2.1)),((p.ar .sub .i64 (p.ar .mul .i64 (p.ar .sub .i64 x.2.2.2.2.1 x.1) x.2.2.2.2.2.2.2.1) (p.ar .mul .i64 (p.ar .sub .i64 x.2.2.2.2.2.1 x.2.1) x.2.2.2.2.2.2.1)),((p.ar .sub .i64 (p.ar .mul .i64 (p.ar .sub .i64 x.2.2.2.2.1 x.1) x.2.2.2.1) (p.ar .mul .i64 (p.ar .sub .i64 x.2.2.2.2.2.1 x.2.1) x.2.2.1)),()))))))))))))) fun a=>
 opt.bnd T40 _ (
 opt.run T40 (
 opt.ask _ (p.cmp .eql a.2.2.2.2.2.2.2.1 (0:Int)) (
 opt.ret _ (a.1,(a.2.1,(a.2.2.1,(a.2.2.2.1,(a.2.2.2.2.1,(a.2.2.2.2.2.1,(a.2.2.2.2.2.2.1,(a.2.2.2.2.2.2.2.1,(a.2.2.2.2.2.2.2.2.1,(Bool.true,()))))))))))) (
 opt.ask _ (p.cmp .lss a.2.2.2.2.2.2.2.2.1 (0:Int)) (
 opt.ret _ (a.1,(a.2.1,(a.2.2.1,(a.2.2.2.1,(a.2.2.2.2.1,(a.2.2.2.2.2.1,(a.2.2.2.2.2.2.1,(a.2.2.2.2.2.2.2.1,(a.2.2.2.2.2.2.2.2.1,(Bool.true,()))))))))))) (
 opt.ask _ (p.cmp .gtr a.2.2.2.2.2.2.2.2.1 a.2.2.2.2.2.2.2.1) (
 opt.ret _ (a.1,(a.2.1,(a.2.2.1,(a.2.2.2.1,(a.2.2.2.2.1,(a.2.2.2.2.2.1,(a.2.2.2.2.2.2.1,(a.2.2.2.2.2.2.2.1,(a.2.2.2.2.2.2.2.2.1,(Bool.true,()))))))))))) (
 opt.ask _ (p.cmp .lss a.2.2.2.2.2.2.2.2.2.1 (0:Int)) (
 opt.ret _ (a.1,(a.2.1,(a.2.2.1,(a.2.2.2.1,(a.2.2.2.2.1,(a.2.2.2.2.2.1,(a.2.2.2.2.2.2.1,(a.2.2.2.2.2.2.2.1,(a.2.2.2.2.2.2.2.2.1,(Bool.true,()))))))))))) (
 opt.ret _ (a.1,(a.2.1,(a.2.2.1,(a.2.2.2.1,(a.2.2.2.2.1,(a.2.2.2.2.2.1,(a.2.2.2.2.2.2.1,(a.2.2.2.2.2.2.2.1,(a.2.2.2.2.2.2.2.2.1,((p.cmp .gtr a.2.2.2.2.2.2.2.2.2.1 a.2.2.2.2.2.2.2.1),())))))))))))))))) fun b=>
 opt.ask _ b.2.2.2.2.2.2.2.2.2.1 (
 opt.ret _ ((0:Int),((0:Int),((0:Int),(Bool.false,()))))) (
 opt.need _ (p.and (p.leN (p.add 0 3) (p.len [[(D.int .i64 (p.ar .add .i64 (p.ar .mul .i64 b.1 b.2.2.2.2.2.2.2.1) (p.ar .mul .i64 b.2.2.1 b.2.2.2.2.2.2.2.2.1)))],[(D.int .i64 (p.ar .add .i64 (p.ar .mul .i64 b.2.1 b.2.2.2.2.2.2.2.1) (p.ar .mul .i64 b.2.2.2.1 b.2.2.2.2.2.2.2.2.1)))],[(D.int .i64 b.2.2.2.2.2.2.2.1)]])) Bool.true)<|
 opt.bnd T0 _ (g93 it p ((p.cut [[(D.int .i64 (p.ar .add .i64 (p.ar .mul .i64 b.1 b.2.2.2.2.2.2.2.1) (p.ar .mul .i64 b.2.2.1 b.2.2.2.2.2.2.2.2.1)))],[(D.int .i64 (p.ar .add .i64 (p.ar .mul .i64 b.2.1 b.2.2.2.2.2.2.2.1) (p.ar .mul .i64 b.2.2.2.1 b.2.2.2.2.2.2.2.2.1)))],[(D.int .i64 b.2.2.2.2.2.2.2.1)]] 0 3),())) fun c=>
 opt.need _ (p.cmp .neq c.1 (0:Int))<|
 opt.need _ (p.cmp .neq c.1 (0:Int))<|
 opt.need _ (p.cmp .neq c.1 (0:Int))<|
 opt.ret _ ((p.ar .quo .i64 (p.ar .add .i64 (p.ar .mul .i64 b.1 b.2.2.2.2.2.2.2.1) (p.ar .mul .i64 b.2.2.1 b.2.2.2.2.2.2.2.2.1)) c.1),((p.ar .quo .i64 (p.ar .add .i64 (p.ar .mul .i64 b.2.1 b.2.2.2.2.2.2.2.1) (p.ar .mul .i64 b.2.2.2.1 b.2.2.2.2.2.2.2.2.1)) c.1),((p.ar .quo .i64 b.2.2.2.2.2.2.2.1 c.1),(Bool.true,())))))
def G76:=g76 it0
theorem ok76:CtrOk PG v4n (G76 std):=okF (a:=an76) (l:=la76) (gC u1q (gN)) (by kernel_rfl) fun _ _=>by kernel_rfl
def v4r:Ctr:=
 ⟨68,[.agg [.int .i64, .int .i64], .agg [.int .i64, .int .i64, .int .i64, .int .i64]],[],[(.ret,⟨[(0, .tuple [.agg [.int .i64, .int .i64], .bool])],[],1⟩)]⟩
def la68:List LA:=
 []
def ja68:List JA:=
 [⟨68,[false,false,true,true,true],0,[(AX.normal,⟨[(3, .bptr 0 0),(4, .bptr 1 0),(6, .bptr 2 0),(8, .int .i64),(29, .bool)],[.box [.int .i64, .int .i64, .int .i64, .int .i64], .box [.int .i64, .int .i64], .box [.int .i64, .int .i64]],40⟩)]⟩]
def v9g:List CF:=
 [⟨w9b,G65⟩]
def an68:Anns:=
 ⟨v9g,ja68,[]⟩
def g68 (it:It):(p:Prim)→T58→Option T25:=
 fun p x=>
 opt.bnd T40 _ (
 opt.run T40 (
 opt.ask _ (p.cmp .leq (p.ar .add .i64 (p.ar .mul .i64 x.2.2.2.2.1 (p.ar .sub .i64 x.1 x.2.2.1)) (p.ar .mul .i64 x.2.2.2.2.2.1 (p.ar .sub .i64 x.2.1 x.2.2.2.1))) (0:Int)) (
 opt.ret _ (x.2.2.1,(x.2.2.2.1,(x.2.2.2.2.1,(x.2.2.2.2.2.1,((0:Int),((0:Int),((p.ar .sub .i64 x.1 x.2.2.1),((p.ar .sub .i64 x.2.1 x.2.2.2.1),((p.ar .add .i64 (p.ar .mul .i64 x.2.2.2.2.1 x.2.2.2.2.1) (p.ar .mul .i64 x.2.2.2.2.2.1 x.2.2.2.2.2.1)),(Bool.true,()))))))))))) (
 opt.ret _ (x.2.2.1,(x.2.2.2.1,(x.2.2.2.2.1,(x.2.2.2.2.2.1,((0:Int),((0:Int),((p.ar .sub .i64 x.1 x.2.2.1),((p.ar .sub .i64 x.2.1 x.2.2.2.1),((p.ar .add .i64 (p.ar .mul .i64 x.2.2.2.2.1 x.2.2.2.2.1) (p.ar .mul .i64 x.2.2.2.2.2.1 x.2.2.2.2.2.1)),((p.cmp .geq (p.ar .add .i64 (p.ar .mul .i64 x.2.2.2.2.1 (p.ar .sub .i64 x.1 x.2.2.1)) (p.ar .mul .i64 x.2.2.2.2.2.1 (p.ar .sub .i64 x.2.1 x.2.2.2.1))) (p.ar .add .i64 (p.ar .mul .i64 x.2.2.2.2.1 x.2.2.2.2.1) (p.ar .mul .i64 x.2.2.2.2.2.1 x.2.2.2.2.2.1))),()))))))))))))) fun a=>
 opt.ask _ a.2.2.2.2.2.2.2.2.2.1 (
 opt.ret _ ((0:Int),((0:Int),(Bool.false,())))) (
 opt.bnd T5 _ (g65 it p ((p.ar .mul .i64 (p.ar .sub .i64 (p.ar .mul .i64 a.2.2.1 a.2.2.2.2.2.2.2.1) (p.ar .mul .i64 a.2.2.2.1 a.2.2.2.2.2.2.1)) (p.ar .sub .i64 (p.ar .mul .i64 a.2.2.1 a.2.2.2.2.2.2.2.1) (p.ar .mul .i64 a.2.2.2.1 a.2.2.2.2.2.2.1))),(a.2.2.2.2.2.2.2.2.1,()))) fun b=>
 opt.ret _ (b.1,(b.2.1,(Bool.true,()))))
def G68:=g68 it0
theorem ok68:CtrOk PG v4r (G68 std):=okF (a:=an68) (l:=la68) (gC u1u (gN)) (by kernel_rfl) fun _ _=>by kernel_rfl
end Go.Am
end
noncomputable section
namespace Go.Am
def w9h:Ctr:=
 ⟨21,[.agg [.list 2, .list 1], .agg [.int .i64, .int .i64]],[],[(.ret,⟨[(0, .tuple [.bool, .int .i64])],[],1⟩)]⟩
def la21:List LA:=
 []
def ja21:List JA:=
 []
def v99:List CF:=
 [⟨w04,G57⟩,⟨w05,G53⟩,⟨x7z,G48⟩]
def an21:Anns:=
 ⟨v99,ja21,[]⟩
def g21 (it:It):(p:Prim)→(LD×(LD×T4))→Option T17:=
 fun p x=>
 opt.alt T0 ((LD×(LD×(LD×T2)))) _ (g48 it p (x.1,(x.2.1,()))) (fun a=>
 opt.ask _ (p.cmp .neq a.1 (0:Int)) (
 opt.ret _ (Bool.false,(a.1,()))) (
 opt.need _ (p.and Bool.true (p.and Bool.true (p.and (p.leN (p.add 0 1) (p.len [[(D.int .i64 x.2.2.1),(D.int .i64 x.2.2.2.1)]])) Bool.true)))<|
 opt.bnd T1 _ (g53 it p ((-1099511627776:Int),((1099511627776:Int),((p.cut [[(D.int .i64 x.2.2.1),(D.int .i64 x.2.2.2.1)]] 0 1),())))) fun b=>
 opt.ask _ (bif b.1 then Bool.false else Bool.true) (
 opt.ret _ (Bool.false,((3:Int),()))) (
 opt.no _ 41))) (fun c=>
 opt.bnd ((LD×(LD×(LD×T2)))) _ (some c) fun d=>
 opt.ask _ (p.cmp .neq d.2.2.2.1 (0:Int)) (
 opt.ret _ (Bool.false,(d.2.2.2.1,()))) (
 opt.need _ (p.and Bool.true (p.and Bool.true (p.and (p.leN (p.add 0 1) (p.len [[(D.int .i64 x.2.2.1),(D.int .i64 x.2.2.2.1)]])) Bool.true)))<|
 opt.bnd T1 _ (g53 it p ((-1099511627776:Int),((1099511627776:Int),((p.cut [[(D.int .i64 x.2.2.1),(D.int .i64 x.2.2.2.1)]] 0 1),())))) fun e=>
 opt.ask _ (bif e.1 then Bool.false else Bool.true) (
 opt.ret _ (Bool.false,((3:Int),()))) (
 opt.bnd T1 _ (g57 it p (d.2.2.1,(x.2.2.1,(x.2.2.2.1,((1:Int),()))))) fun f=>
 opt.ret _ (f.1,((0:Int),())))))
def G21:=g21 it0
theorem u2a:CtrOk PG w9h (G21 std):=okF (a:=an21) (l:=la21) (gC v61 (gC v62 (gC v1f (gN)))) (by kernel_rfl) fun _ _=>by kernel_rfl
def v5a:Ctr:=
 ⟨23,[.agg [.list 2, .list 1], .list 2],[],[(.ret,⟨[(0, .tuple [.agg [.int .i64, .int .i64], .int .i64])],[],1⟩)]⟩
def la23:List LA:=
 [⟨23,[false,true,false,true,true,true,true],0,⟨⟨[(4, .bptr 0 0),(8, .list 2),(37, .list 2),(38, .int .i64),(39, .int .i64)],[.box [.int .i64, .int .i64]],54⟩,[(AX.ret,⟨[(4, .bptr 0 0),(5, .int .i64)],[.box [.int .i64, .int .i64]],54⟩),((AX.exit 1),⟨[(4, .bptr 0 0)],[.box [.int .i64, .int .i64]],54⟩)]⟩⟩]
def ja23:List JA:=
 [⟨23,[true,true,true,false,false,true,true],0,[(AX.ret,⟨[(4, .bptr 0 0),(5, .int .i64)],[.box [.int .i64, .int .i64]],54⟩),(AX.normal,⟨[(1, .list 2),(4, .bptr 0 0),(6, .nilp)],[.box [.int .i64, .int .i64]],54⟩),(AX.normal,⟨[(1, .list 2),(4, .bptr 0 0),(6, .bptr 1 0)],[.box [.int .i64, .int .i64], .box [.list 2, .list 1, .list 2]],54⟩)]⟩,
 ⟨23,[true,false,false,true,true],0,[(AX.ret,⟨[(4, .bptr 0 0),(5, .int .i64)],[.box [.int .i64, .int .i64]],54⟩),(AX.normal,⟨[(1, .list 2),(4, .bptr 0 0),(6, .nilp)],[.box [.int .i64, .int .i64]],54⟩),(AX.normal,⟨[(1, .list 2),(4, .bptr 0 0),(6, .bptr 1 0)],[.box [.int .i64, .int .i64], .box [.list 2, .list 1, .list 2]],54⟩)]⟩]
def v98:List CF:=
 [⟨w04,G57⟩,⟨w9d,G59⟩,⟨w9c,G60⟩,⟨w05,G53⟩,⟨w9e,G50⟩,⟨x7z,G48⟩]
def an23:Anns:=
 ⟨v98,ja23,[]⟩
def w97 (it:It) (p:Prim):T81→Option T82:=
 fun a=>opt.run _ (
 opt.ask _ (p.cmp .lss a.2.2.2.2.2.1 a.2.2.2.2.1) (
 opt.need _ (p.rowOk a.2.2.2.1 (p.nat a.2.2.2.2.2.1) [ci,ci])<|
 opt.need _ (p.cmp .geq a.2.2.2.2.2.1 (0:Int))<|
 opt.bnd T1 _ (g57 it p (a.2.2.1,((p.rdI a.2.2.2.1 (p.nat a.2.2.2.2.2.1) 0),((p.rdI a.2.2.2.1 (p.nat a.2.2.2.2.2.1) 1),((1:Int),()))))) fun b=>
 opt.ask _ (bif b.1 then Bool.false else Bool.true) (
 opt.ret _ (Sum.inr (Sum.inl ((p.rdI a.2.2.2.1 (p.nat a.2.2.2.2.2.1) 0),((p.rdI a.2.2.2.1 (p.nat a.2.2.2.2.2.1) 1),((0:Int),())))))) (
 opt.ret _ (Sum.inl (a.1,(a.2.1,(a.2.2.1,(a.2.2.2.1,(a.2.2.2.2.1,((p.ar .add .i64 a.2.2.2.2.2.1 (1:Int)),()))))))))) (
 opt.ret _ (Sum.inr (Sum.inr (a.1,(a.2.1,()))))))
def w98 (it:It) (p:Prim):T81→Option T82:=
 fun a=>opt.run _ (
 opt.ask _ (p.cmp .lss a.2.2.2.2.2.1 a.2.2.2.2.1) (
 opt.need _ (p.rowOk a.2.2.2.1 (p.nat a.2.2.2.2.2.1) [ci,ci])<|
 opt.need _ (p.cmp .geq a.2.2.2.2.2.1 (0:Int))<|
 opt.bnd T1 _ (g57 it p (a.2.2.1,((p.rdI a.2.2.2.1 (p.nat a.2.2.2.2.2.1) 0),((p.rdI a.2.2.2.1 (p.nat a.2.2.2.2.2.1) 1),((1:Int),()))))) fun b=>
 opt.ask _ (bif b.1 then Bool.false else Bool.true) (
 opt.ret _ (Sum.inr (Sum.inl ((p.rdI a.2.2.2.1 (p.nat a.2.2.2.2.2.1) 0),((p.rdI a.2.2.2.1 (p.nat a.2.2.2.2.2.1) 1),((0:Int),())))))) (
 opt.ret _ (Sum.inl (a.1,(a.2.1,(a.2.2.1,(a.2.2.2.1,(a.2.2.2.2.1,((p.ar .add .i64 a.2.2.2.2.2.1 (1:Int)),()))))))))) (
 opt.ret _ (Sum.inr (Sum.inr (a.1,(a.2.1,()))))))
def g23 (it:It):(p:Prim)→(LD×(LD×(LD×Unit)))→Option T7:=
 fun p x=>
 opt.alt T0 ((LD×(LD×(LD×T2)))) _ (g48 it p (x.1,(x.2.1,()))) (fun a=>
 opt.alt T7 T41 _ (
 opt.run T42 (
 opt.ask _ (p.cmp .neq a.1 (0:Int)) (
 opt.ret _ (Sum.inl ((0:Int),((0:Int),(a.1,()))))) (
 opt.bnd T1 _ (G50 p (x.2.2.1,())) fun b=>
 opt.alt T7 T41 _ (
 opt.run T42 (
 opt.ask _ (bif b.1 then Bool.false else Bool.true) (
 opt.ret _ (Sum.inl ((0:Int),((0:Int),((6:Int),()))))) (
 opt.bnd T1 _ (g53 it p ((-10000:Int),((10000:Int),(x.2.2.1,())))) fun c=>
 opt.ask _ (bif c.1 then Bool.false else Bool.true) (
 opt.ret _ (Sum.inl ((0:Int),((0:Int),((3:Int),()))))) (
 opt.ret _ (Sum.inr (Sum.inl ((0:Int),((0:Int),(x.2.2.1,()))))))))) (fun d=>
 opt.ret _ (Sum.inl (d.1,(d.2.1,(d.2.2.1,()))))) (fun e=>
 opt.alt T30 T20 _ (some e) (fun f=>
 opt.ret _ (Sum.inr (Sum.inl (f.1,(f.2.1,(f.2.2.1,())))))) (fun g=>
 opt.bnd T20 _ (some g) fun h=>
 opt.ret _ (Sum.inr (Sum.inr (h.1,(h.2.1,(h.2.2.1,(h.2.2.2.1,(h.2.2.2.2.1,(h.2.2.2.2.2.1,()))))))))))))) (fun i=>
 opt.ret _ (i.1,(i.2.1,(i.2.2.1,())))) (fun j=>
 opt.alt T30 T20 _ (some j) (fun k=>
 opt.bnd ((LD×Unit)) _ (g60 it p (k.2.2.1,())) fun l=>
 opt.bnd ((LD×Unit)) _ (g59 it p (l.1,())) fun m=>
 opt.no _ 41) (fun n=>
 opt.bnd T20 _ (some n) fun o=>
 opt.bnd ((LD×Unit)) _ (g60 it p (o.2.2.2.2.2.1,())) fun q=>
 opt.bnd ((LD×Unit)) _ (g59 it p (q.1,())) fun r=>
 opt.alt T7 T5 _ (
 it _ _ (w98 it p) (o.1,(o.2.1,(r.1,(o.2.2.2.2.1,((p.ofNat (p.len o.2.2.2.2.1)),((0:Int),()))))))) (fun t=>
 opt.ret _ (t.1,(t.2.1,(t.2.2.1,())))) (fun u=>
 opt.bnd T5 _ (some u) fun v=>
 opt.ret _ ((0:Int),((0:Int),((5:Int),()))))))) (fun w=>
 opt.bnd ((LD×(LD×(LD×T2)))) _ (some w) fun z=>
 opt.alt T7 T41 _ (
 opt.run T42 (
 opt.ask _ (p.cmp .neq z.2.2.2.1 (0:Int)) (
 opt.ret _ (Sum.inl ((0:Int),((0:Int),(z.2.2.2.1,()))))) (
 opt.bnd T1 _ (G50 p (x.2.2.1,())) fun a1=>
 opt.alt T7 T41 _ (
 opt.run T42 (
 opt.ask _ (bif a1.1 then Bool.false else Bool.true) (
 opt.ret _ (Sum.inl ((0:Int),((0:Int),((6:Int),()))))) (
 opt.bnd T1 _ (g53 it p ((-10000:Int),((10000:Int),(x.2.2.1,())))) fun b1=>
 opt.ask _ (bif b1.1 then Bool.false else Bool.true) (
 opt.ret _ (Sum.inl ((0:Int),((0:Int),((3:Int),()))))) (
 opt.ret _ (Sum.inr (Sum.inr ((0:Int),((0:Int),(z.1,(z.2.1,(z.2.2.1,(x.2.2.1,())))))))))))) (fun c1=>
 opt.ret _ (Sum.inl (c1.1,(c1.2.1,(c1.2.2.1,()))))) (fun d1=>
 opt.alt T30 T20 _ (some d1) (fun e1=>
 opt.ret _ (Sum.inr (Sum.inl (e1.1,(e1.2.1,(e1.2.2.1,())))))) (fun f1=>
 opt.bnd T20 _ (some f1) fun g1=>
 opt.ret _ (Sum.inr (Sum.inr (g1.1,(g1.2.1,(g1.2.2.1,(g1.2.2.2.1,(g1.2.2.2.2.1,(g1.2.2.2.2.2.1,()))))))))))))) (fun h1=>
 opt.ret _ (h1.1,(h1.2.1,(h1.2.2.1,())))) (fun i1=>
 opt.alt T30 T20 _ (some i1) (fun j1=>
 opt.bnd ((LD×Unit)) _ (g60 it p (j1.2.2.1,())) fun k1=>
 opt.bnd ((LD×Unit)) _ (g59 it p (k1.1,())) fun l1=>
 opt.no _ 41) (fun m1=>
 opt.bnd T20 _ (some m1) fun n1=>
 opt.bnd ((LD×Unit)) _ (g60 it p (n1.2.2.2.2.2.1,())) fun o1=>
 opt.bnd ((LD×Unit)) _ (g59 it p (o1.1,())) fun q1=>
 opt.alt T7 T5 _ (
 it _ _ (w97 it p) (n1.1,(n1.2.1,(q1.1,(n1.2.2.2.2.1,((p.ofNat (p.len n1.2.2.2.2.1)),((0:Int),()))))))) (fun r1=>
 opt.ret _ (r1.1,(r1.2.1,(r1.2.2.1,())))) (fun t1=>
 opt.bnd T5 _ (some t1) fun u1=>
 opt.ret _ ((0:Int),((0:Int),((5:Int),())))))))
def G23:=g23 it0
theorem ok23:CtrOk PG v5a (G23 std):=okF (a:=an23) (l:=la23) (gC v61 (gC u1w (gC u1v (gC v62 (gC u1x (gC v1f (gN))))))) (by kernel_rfl) fun _ _=>by kernel_rfl
end Go.Am
end
section
namespace M06
def ml (a:Pt) (den:Int):Pt:=(a.1*den,a.2*den)
def y4t (n:Nat) (a b p:Pt) (den:Int):Bool:=if crs (sb b a) (sb p (ml a den))<0 then false else if n=2 then !decide (dt (sb b a) (sb p (ml a den))<0) else true
def inC (c:List Pt) (p:Pt) (den:Int):Bool:=
 if c.length=1 then decide (p=ml (c.getD 0 (0,0)) den) else (List.range c.length).all fun i=>y4t c.length (c.getD i (0,0)) (c.getD ((i+1) % c.length) (0,0)) p den
def InH (S:List Pt) (p:Pt) (den:Int):Prop:=∀ d:Pt,∃ x∈S,0≤crs d (sb p (ml x den))
theorem w7e (p a b:Pt) (k:Int) (d:Pt):crs d (sb p (ml b k))=crs d (sb p (ml a k))+k*crs d (sb a b):=by simp only [crs,sb,ml]; grind
theorem InH.sub {S T:List Pt} {p:Pt} {k:Int} (h:InH S p k) (hs:∀ x∈S,x∈T):InH T p k:=fun d=>by
 obtain ⟨x,hx,h0⟩:=h d
 exact ⟨x,hs x hx,h0⟩
theorem w00 {S c:List Pt} (h:Cyc S c) (d:Pt):∃ a∈c,∀ x∈S,0≤crs d (sb x a):=by
 by_cases hd:d=(0,0)
 ·subst hd
  match c,h with
  |a::r,_=>exact ⟨a,by simp,fun x _=>by simp [crs]⟩
 ·have h1:=y32 h hd
  have h2:=y32 (x59 h) hd
  exact ⟨_,h2.ina,h1.left⟩
theorem x5o {S c:List Pt} (h:Cyc S c) {p:Pt} {k:Int} (hk:0≤k):InH S p k↔InH c p k:=by
 refine ⟨fun hp d=>?_,fun hp=>hp.sub (y0q h)⟩
 obtain ⟨x,hx,h0⟩:=hp d
 obtain ⟨a,ha,hall⟩:=w00 h d
 refine ⟨a,ha,?_⟩
 rw [w7e p x a k d]
 have:=Int.mul_nonneg hk (hall x hx)
 omega
theorem y5i {S:List Pt} {q a b:Pt} (hq:q∈S) (h1:Nx S q a) (h2:Nx S a b) (h0:crs (sb a q) (sb b a)=0):q=b:=by
 have z1:cr q a b=0:=by
  have e:cr q a b=crs (sb a q) (sb b a):=by simp only [cr,crs,sb]; grind
  omega
 have z2:cr a b q=0:=by
  have e:cr a b q=crs (sb a q) (sb b a):=by simp only [cr,crs,sb]; grind
  omega
 have d1:=((h1.2.2 b h2.1).2 z1).1
 refine w7n h2 hq z2 ?_
 have hu:=z1e (u:=sb a q) (fun e=>h1.2.1 (z2h.1 e).symm)
 have hl:=lag (sb a q) (sb b a)
 rw [h0] at hl
 have e1:far a q=dt (sb a q) (sb a q):=by simp only [far,dt,sb]
 have e2:far a b=dt (sb b a) (sb b a):=by simp only [far,dt,sb]; grind
 have e3:dt (sb a q) (sb b q)=dt (sb a q) (sb a q)+dt (sb a q) (sb b a):=by simp only [dt,sb]; grind
 have d2:=((h2.2.2 q hq).2 z2).1
 have e4:dt (sb b a) (sb q a)= - dt (sb a q) (sb b a):=by simp only [dt,sb]; grind
 rw [e1,e2]
 generalize dt (sb a q) (sb a q)=n at*
 generalize dt (sb b a) (sb b a)=m at*
 generalize dt (sb a q) (sb b a)=t at*
 have hm:(-t)*(-t)≤n*n:=Int.mul_le_mul (by omega) (by omega) (by omega) (by omega)
 rw [Int.neg_mul_neg] at hm
 have hnm:n*m≤n*n:=by omega
 refine Classical.byContradiction fun hc=>?_
 have:=Int.mul_lt_mul_of_pos_left (show n<m by omega) hu
 omega
theorem getD_some {α:Type} {l:List α} {i:Nat} {a d:α} (h:l[i]?=some a):l.getD i d=a:=by simp [List.getD_eq_getElem?_getD,h]
theorem z88 {c:List Pt} (h:Cyc c c) (h2:2≤c.length) {a b:Pt} (ha:a∈c) (hn:Nx c a b):∃ i,i<c.length∧c[i]?=some a∧c[(i+1) % c.length]?=some b:=by
 obtain ⟨i,hi⟩:=List.getElem?_of_mem ha
 have hil:=(List.getElem?_eq_some_iff.1 hi).1
 have hx:∃ y,c[(i+1) % c.length]?=some y:=⟨_,List.getElem?_eq_getElem (Nat.mod_lt _ (by omega))⟩
 obtain ⟨y,hy⟩:=hx
 have:=y07 hn (y5q h h2 hi hy)
 subst this
 exact ⟨i,hil,hi,hy⟩
theorem y09 {α:Type} {l:List α} (h:l.Nodup) {i j:Nat} {a:α} (hi:l[i]?=some a) (hj:l[j]?=some a):i=j:=by
 obtain ⟨i1,i2⟩:=List.getElem?_eq_some_iff.1 hi
 obtain ⟨j1,j2⟩:=List.getElem?_eq_some_iff.1 hj
 have hp:=List.pairwise_iff_getElem.1 h
 rcases Nat.lt_trichotomy i j with k|k|k
 ·exact absurd (i2.trans j2.symm) (hp i j i1 j1 k)
 ·exact k
 ·exact absurd (j2.trans i2.symm) (hp j i j1 i1 k)
theorem y6w {n:Nat} {a b p:Pt} {k:Int}:y4t n a b p k=true↔0≤crs (sb b a) (sb p (ml a k))∧(n=2→0≤dt (sb b a) (sb p (ml a k))):=by
 unfold y4t
 split
 ·rename_i h
  exact ⟨fun h=>by simp at h,fun h'=>by omega⟩
 ·rename_i h
  split
  ·rename_i h2
   rw [Bool.not_eq_true',decide_eq_false_iff_not]
   exact ⟨fun h'=>⟨by omega,fun _=>by omega⟩,fun h'=>by have:=h'.2 h2; omega⟩
  ·rename_i h2
   exact ⟨fun _=>⟨by omega,fun e=>absurd e h2⟩,fun _=>rfl⟩
theorem y81 {S c:List Pt} (h:Cyc S c) {p:Pt} {k:Int} (hk:0<k):inC c p k=true↔InH c p k:=by
 have hc:=x59 h
 have hne:1≤c.length:=by
  match c,h with
  |a::r,_=>simp
 unfold inC
 by_cases h1:c.length=1
 ·rw [if_pos h1]
  obtain ⟨a,rfl⟩:∃ a,c=[a]:=by
   match c,h1 with
   |[a],_=>exact ⟨a,rfl⟩
  show decide (p=ml a k)=true↔_
  rw [decide_eq_true_eq]
  constructor
  ·rintro rfl d
   exact ⟨a,by simp,by simp [crs,sb]⟩
  ·intro hp
   have q:∀ d:Pt,0≤crs d (sb p (ml a k)):=fun d=>by
    obtain ⟨x,hx,h0⟩:=hp d
    simp at hx; subst hx; exact h0
   have q1:=q (1,0)
   have q2:=q (-1,0)
   have q3:=q (0,1)
   have q4:=q (0, -1)
   simp only [crs,sb] at q1 q2 q3 q4
   exact Prod.ext (by omega) (by omega)
 ·have h2:2≤c.length:=by omega
  rw [if_neg h1,List.all_eq_true]
  constructor
  ·intro hall
   have side:∀ {a b:Pt},a∈c→Nx c a b→0≤crs (sb b a) (sb p (ml a k))∧(c.length=2→0≤dt (sb b a) (sb p (ml a k))):=by
    intro a b ha hn
    obtain ⟨i,hi,i1,i2⟩:=z88 hc h2 ha hn
    have:=hall i (List.mem_range.2 hi)
    rw [getD_some i1,getD_some i2] at this
    exact y6w.1 this
   intro d
   by_cases hd:d=(0,0)
   ·subst hd
    obtain ⟨a,ha⟩:∃ a,a∈c:=by
     match c,hne with
     |a::r,_=>exact ⟨a,by simp⟩
    exact ⟨a,ha,by simp [crs]⟩
   ·obtain ⟨α,a1,_,a3⟩:∃ α,α∈c∧True∧((∃ β,Nx c α β∧z68 d (sb β α))∨∃ q β,q∈c∧Nx c q α∧Nx c α β∧0<crs (sb α q) d∧0<crs d (sb β α)):=by
     match c,hc,h2 with
     |a::b::r,hc,_=>
      obtain ⟨α,k1,k2,k3⟩:=w01 hc hd
      exact ⟨α,k1,trivial,k3.imp (fun ⟨β,x,y,_⟩=>⟨β,x,y⟩) (fun ⟨_,x⟩=>x)⟩
    refine ⟨α,a1,?_⟩
    rcases a3 with ⟨β,b1,b2⟩|⟨q,β,b1,b2,b3,b4,b5⟩
    ·have hs:=(side a1 b1).1
     have hm:=(b2.symm.mul (sb p (ml α k))).1
     exact (z79 (z1e b2.symm.ne) b2.symm.2 hm).1.2 hs
    ·have s1:=(side b1 b2).1
     have s2:=side a1 b3
     have e1:crs (sb α q) (sb p (ml q k))=crs (sb α q) (sb p (ml α k)):=by simp only [crs,sb,ml]; grind
     rw [e1] at s1
     have hD:0≤crs (sb α q) (sb β α):=by
      have:=(b2.2.2 β b3.1).1
      have e:cr q α β=crs (sb α q) (sb β α):=by simp only [cr,crs,sb]; grind
      omega
     have hflat:crs (sb α q) (sb β α)=0→c.length=2:=by
      intro h0
      have hqb:=y5i b1 b2 b3 h0
      subst hqb
      obtain ⟨i,i0,i1,i2⟩:=z88 hc h2 a1 b3
      obtain ⟨j,j0,j1,j2⟩:=z88 hc h2 b1 b2
      have hnd:=y1m hc
      have x1:=y09 hnd i1 j2
      have x2:=y09 hnd i2 j1
      by_cases w1:i+1<c.length
      ·rw [Nat.mod_eq_of_lt w1] at x2
       by_cases w2:j+1<c.length
       ·rw [Nat.mod_eq_of_lt w2] at x1; omega
       ·have:j+1=c.length:=by omega
        rw [this,Nat.mod_self] at x1; omega
      ·have:i+1=c.length:=by omega
       rw [this,Nat.mod_self] at x2
       by_cases w2:j+1<c.length
       ·rw [Nat.mod_eq_of_lt w2] at x1; omega
       ·omega
     have hn:sb β α≠(0,0):=fun e=>b3.2.1 (z2h.1 e).symm
     generalize sb α q=u at*
     generalize sb β α=n at*
     generalize sb p (ml α k)=v at*
     have id1:crs u n*crs d v=crs d n*crs u v+crs u d*crs n v:=by simp only [crs]; grind
     have m1:=Int.mul_nonneg (Int.le_of_lt b5) s1
     have m2:=Int.mul_nonneg (Int.le_of_lt b4) s2.1
     rcases Int.lt_or_eq_of_le hD with hD|hD
     ·refine Classical.byContradiction fun hc=>?_
      have:=Int.mul_neg_of_pos_of_neg hD (Int.not_le.1 hc)
      omega
     ·have hdt:=s2.2 (hflat hD.symm)
      rw [←hD,Int.zero_mul] at id1
      have z2:crs u d*crs n v=0:=by omega
      have z2:crs n v=0:=by rcases Int.mul_eq_zero.1 z2 with h|h<;>omega
      have id2:dt n n*crs d v=dt n v*crs d n+crs n v*dt n d:=by simp only [crs,dt]; grind
      rw [z2,Int.zero_mul,Int.add_zero] at id2
      have m3:=Int.mul_nonneg hdt (Int.le_of_lt b5)
      refine Classical.byContradiction fun hc=>?_
      have:=Int.mul_neg_of_pos_of_neg (z1e hn) (Int.not_le.1 hc)
      omega
  ·intro hp i hi
   have hi:=List.mem_range.1 hi
   obtain ⟨a,ha⟩:∃ a,c[i]?=some a:=⟨_,List.getElem?_eq_getElem hi⟩
   obtain ⟨b,hb⟩:∃ b,c[(i+1) % c.length]?=some b:=⟨_,List.getElem?_eq_getElem (Nat.mod_lt _ (by omega))⟩
   rw [getD_some ha,getD_some hb,y6w]
   have hn:=y5q hc h2 ha hb
   refine ⟨?_,fun hl=>?_⟩
   ·obtain ⟨x,hx,h0⟩:=hp (sb b a)
    have:=(hn.2.2 x hx).1
    have e:cr a b x=crs (sb b a) (sb x a):=rfl
    rw [w7e p x a k]
    have:=Int.mul_nonneg (Int.le_of_lt hk) (show 0≤crs (sb b a) (sb x a) by omega)
    omega
   ·
    obtain ⟨x,hx,h0⟩:=hp ((sb b a).2, -(sb b a).1)
    have hab:x=a∨x=b:=by
     match c,hl,ha,hb,hx with
     |[u,v],_,ha,hb,hx=>
      have hi2:i<2:=by simpa using hi
      have:i=0∨i=1:=by omega
      rcases this with rfl|rfl
      ·simp at ha hb hx; subst ha; subst hb; exact hx
      ·simp at ha hb hx; subst ha; subst hb; exact hx.symm
    have e:∀ v:Pt,crs ((sb b a).2, -(sb b a).1) v=dt (sb b a) v:=fun v=>by simp only [crs,dt]; grind
    rw [e] at h0
    rcases hab with rfl|rfl
    ·exact h0
    ·have e2:dt (sb x a) (sb p (ml a k))=dt (sb x a) (sb p (ml x k))+k*dt (sb x a) (sb x a):=by simp only [dt,sb,ml]; grind
     rw [e2]
     have:=Int.mul_nonneg (Int.le_of_lt hk) (z63 (sb x a))
     omega
end M06
end
section
namespace Go.Am
open M06
def Big (p:Pt):Prop:=z0s (-1099511627776) 1099511627776 p
theorem y2s {a b A B:Int} (hA:0≤A) (h1: -A≤a) (h2:a≤A) (h3: -B≤b) (h4:b≤B): -(A*B)≤a*b∧a*b≤A*B:=by
 have e1:=Int.mul_nonneg (show 0≤A - a by omega) (show 0≤B - b by omega)
 have e2:=Int.mul_nonneg (show 0≤A+a by omega) (show 0≤B+b by omega)
 have e3:=Int.mul_nonneg (show 0≤A - a by omega) (show 0≤B+b by omega)
 have e4:=Int.mul_nonneg (show 0≤A+a by omega) (show 0≤B - b by omega)
 simp only [Int.sub_mul,Int.add_mul,Int.mul_sub,Int.mul_add] at e1 e2 e3 e4
 omega
theorem z9k {a b p:Pt} {den:Int} (ha:z0s (-10000) 10000 a) (hb:z0s (-10000) 10000 b) (hp:Big p) (hd:1≤den) (hd2:den≤268435456):
  (IntKind.i64.wrap (b.1 - a.1)=(sb b a).1∧IntKind.i64.wrap (b.2 - a.2)=(sb b a).2)∧
  (IntKind.i64.wrap (a.1*den)=(ml a den).1∧IntKind.i64.wrap (a.2*den)=(ml a den).2)∧
  (IntKind.i64.wrap (p.1 - (ml a den).1)=(sb p (ml a den)).1∧IntKind.i64.wrap (p.2 - (ml a den).2)=(sb p (ml a den)).2)∧
  (IntKind.i64.wrap ((sb b a).1*(sb p (ml a den)).2)=(sb b a).1*(sb p (ml a den)).2∧IntKind.i64.wrap ((sb b a).2*(sb p (ml a den)).1)=(sb b a).2*(sb p (ml a den)).1)∧
  (IntKind.i64.wrap ((sb b a).1*(sb p (ml a den)).1)=(sb b a).1*(sb p (ml a den)).1∧IntKind.i64.wrap ((sb b a).2*(sb p (ml a den)).2)=(sb b a).2*(sb p (ml a den)).2)∧
  IntKind.i64.wrap ((sb b a).1*(sb p (ml a den)).2 - (sb b a).2*(sb p (ml a den)).1)=crs (sb b a) (sb p (ml a den))∧
  IntKind.i64.wrap ((sb b a).1*(sb p (ml a den)).1+(sb b a).2*(sb p (ml a den)).2)=dt (sb b a) (sb p (ml a den)):=by
 obtain ⟨a1,a2,a3,a4⟩:=ha
 obtain ⟨b1,b2,b3,b4⟩:=hb
 obtain ⟨p1,p2,p3,p4⟩:=hp
 have m1:=y2s (A:=10000) (B:=268435456) (a:=a.1) (b:=den) (by omega) (by omega) (by omega) (by omega) (by omega)
 have m2:=y2s (A:=10000) (B:=268435456) (a:=a.2) (b:=den) (by omega) (by omega) (by omega) (by omega) (by omega)
 have s1: -20000≤(sb b a).1∧(sb b a).1≤20000:=by simp only [sb]; omega
 have s2: -20000≤(sb b a).2∧(sb b a).2≤20000:=by simp only [sb]; omega
 have q1: -3783866187776≤(sb p (ml a den)).1∧(sb p (ml a den)).1≤3783866187776:=by simp only [sb,ml]; omega
 have q2: -3783866187776≤(sb p (ml a den)).2∧(sb p (ml a den)).2≤3783866187776:=by simp only [sb,ml]; omega
 have r1:=y2s (A:=20000) (B:=3783866187776) (by omega) s1.1 s1.2 q2.1 q2.2
 have r2:=y2s (A:=20000) (B:=3783866187776) (by omega) s2.1 s2.2 q1.1 q1.2
 have r3:=y2s (A:=20000) (B:=3783866187776) (by omega) s1.1 s1.2 q1.1 q1.2
 have r4:=y2s (A:=20000) (B:=3783866187776) (by omega) s2.1 s2.2 q2.1 q2.2
 have w:∀ x:Int, -9223372036854775808≤x→x≤9223372036854775807→IntKind.i64.wrap x=x:=fun x h1 h2=>z1k x h1 h2
 refine ⟨⟨w _ (by omega) (by omega),w _ (by omega) (by omega)⟩,⟨w _ (by omega) (by omega),w _ (by omega) (by omega)⟩,⟨w _ (by simp only [ml]; omega) (by simp only [ml]; omega),w _ (by simp only [ml]; omega) (by simp only [ml]; omega)⟩,⟨w _ (by omega) (by omega),w _ (by omega) (by omega)⟩,⟨w _ (by omega) (by omega),w _ (by omega) (by omega)⟩,w _ (by omega) (by omega),w _ (by omega) (by omega)⟩
theorem x4a {S c:List Pt} (h:Cyc S c) (h2:2≤c.length) {i:Nat} {a b:Pt} (ha:c[i]?=some a) (hb:c[(i+1) % c.length]?=some b):sb b a≠(0,0):=fun e=>(y5q h h2 ha hb).2.1 (z2h.1 e).symm
theorem x2j {n:Nat} {P:Nat→Bool} (h:∀ i,i<n→P i=true):(List.range n).all P=true:=by
 rw [List.all_eq_true]; intro i hi; exact h i (List.mem_range.1 hi)
theorem y08 {n:Nat} {P:Nat→Bool} {i:Nat} (hi:i<n) (h:P i=false):(List.range n).all P=false:=by
 rw [Bool.eq_false_iff]
 intro ha
 rw [List.all_eq_true] at ha
 have:=ha i (List.mem_range.2 hi)
 rw [h] at this; cases this
theorem w6v {S c:List Pt} (hc:Cyc S c) (hbx:∀ x∈c,z0s (-10000) 10000 x) (hl:c.length≤100000) {p:Pt} (hp:Big p) {den:Int} (hd:1≤den) (hd2:den≤268435456):
  G57 std (z0b c,p.1,p.2,den,())=some (inC c p den,()):=by
 unfold G57
 by_cases h1:c.length=1
 ·obtain ⟨a,ha⟩:∃ a,c=[a]:=by
   match c,h1 with
   |[a],_=>exact ⟨a,rfl⟩
  subst ha
  have ga:=z0w (l:=[a]) (i:=0) rfl
  obtain ⟨_,⟨w1,w2⟩,_⟩:=z9k (hbx a (by simp)) (hbx a (by simp)) hp hd hd2
  have z0:(0:Int).toNat=0:=rfl
  have c1:(([a]:List Pt).length:Int)=1:=rfl
  have c1':((1:Nat):Int)=1:=rfl
  have hin:inC [a] p den=decide (p=ml a den):=rfl
  rw [hin]
  by_cases q1:p.1=(ml a den).1
  ·by_cases q2:p.2=(ml a den).2
   ·have:p=ml a den:=Prod.ext q1 q2
    simp only [g57,z01,z02,z0p,z1b,z1a,z27,z0v,z0e,z0,ga,z09,w1,w2,c1',eq_true q1,eq_true q2,eq_true this]
   ·have:¬ p=ml a den:=fun e=>q2 (by rw [e])
    simp only [g57,z01,z02,z0p,z1b,z1a,z27,z0v,z0e,z0,ga,z09,w1,w2,c1',eq_true q1,q2,this]
  ·have:¬ p=ml a den:=fun e=>q1 (by rw [e])
   simp only [g57,z01,z02,z0p,z1b,z1a,z27,z0v,z0e,z0,ga,z09,w1,w2,c1',q1,this]
 ·have h2:2≤c.length:=by
   match c,hc,h1 with
   |_::_::_,_,_=>simp
   |[a],_,h1=>exact absurd rfl h1
  have c1:¬ (c.length:Int)=1:=by omega
  have key:=z3w (b:=x4i std) c.length (fun i=>(z0b c,p.1,p.2,den,false,z0b c,z0b c,(c.length:Int),(i:Int),())) (fun i=>!y4t c.length (c.getD i (0,0)) (c.getD ((i+1) % c.length) (0,0)) p den)
   (fun i=> .inr (.inl (z0b c,p.1,p.2,den,false,z0b c,()))) (.inr (.inr (z0b c,p.1,p.2,den,false,z0b c,()))) (fun i hi=>by
   obtain ⟨a,ha⟩:=z0q hi
   obtain ⟨b,hb⟩:=z0q (l:=c) (i:=(i+1) % c.length) (Nat.mod_lt _ (by omega))
   have ga:=z0w ha
   have gb:=z0w hb
   have hne:=x4a hc h2 ha hb
   rw [y5b ha,y5b hb]
   obtain ⟨⟨w1,w2⟩,⟨w3,w4⟩,⟨w5,w6⟩,⟨w7,w8⟩,⟨w9,w10⟩,w11,w12⟩:=z9k (hbx a (List.mem_of_getElem? ha)) (hbx b (List.mem_of_getElem? hb)) hp hd hd2
   obtain ⟨m1,m2⟩:=x3s (i:=i) (n:=c.length) (by omega) (by omega)
   have c2:(i:Int)<(c.length:Int):=by omega
   have c3:(i:Int)≥0:=by omega
   have c4:¬ (c.length:Int)=0:=by omega
   have c5:(((i+1) % c.length:Nat):Int)≥0:=by omega
   have c6:(((i+1) % c.length:Nat):Int)<(c.length:Int):=by have:=Nat.mod_lt (i+1) (show 0<c.length by omega); omega
   have hz:(if (sb b a).1=0 then if (sb b a).2=0 then true else false else false)=false:=by
    by_cases q1:(sb b a).1=0
    ·rw [if_pos q1,if_neg (fun e=>hne (Prod.ext q1 e))]
    ·rw [if_neg q1]
   unfold y4t
   by_cases k1:crs (sb b a) (sb p (ml a den))<0
   ·simp only [x4i,z01,z02,z0p,z1b,z1a,z27,z0v,z0e,z0f,z0o,z09,z1r,m1,m2,ga,gb,w1,w2,w3,w4,w5,w6,w7,w8,w9,w10,w11,w12,c2,c3,c4,c5,c6,hz,k1,not_false_eq_true]
   ·by_cases k2:c.length=2
    ·have k2':(c.length:Int)=2:=by omega
     by_cases k3:dt (sb b a) (sb p (ml a den))<0
     ·simp only [x4i,z01,z02,z0p,z1b,z1a,z27,z0v,z0e,z0f,z0o,z09,z1r,m1,m2,ga,gb,w1,w2,w3,w4,w5,w6,w7,w8,w9,w10,w11,w12,c2,c3,c4,c5,c6,hz,k1,eq_true k2,eq_true k2',k3,not_false_eq_true]
     ·simp only [x4i,z01,z02,z0p,z1b,z1a,z27,z0v,z0e,z0f,z0o,z09,z1r,m1,m2,ga,gb,w1,w2,w3,w4,w5,w6,w7,w8,w9,w10,w11,w12,c2,c3,c4,c5,c6,hz,k1,eq_true k2,eq_true k2',k3,not_false_eq_true]
    ·have k2':¬ (c.length:Int)=2:=by omega
     simp only [x4i,z01,z02,z0p,z1b,z1a,z27,z0v,z0e,z0f,z0o,z09,z1r,m1,m2,ga,gb,w1,w2,w3,w4,w5,w6,w7,w8,w9,w10,w11,w12,c2,c3,c4,c5,c6,hz,k1,k2,k2',not_false_eq_true]) (by
   have hn:¬ ((c.length:Int)<(c.length:Int)):=by omega
   simp only [x4i,z01,z02,hn])
  have e0:(z0b c,p.1,p.2,den,false,z0b c,z0b c,(c.length:Int),((0:Nat):Int),())=(z0b c,p.1,p.2,den,false,z0b c,z0b c,(c.length:Int),(0:Int),()):=rfl
  rw [e0] at key
  unfold inC
  rw [if_neg h1]
  rcases key with ⟨i,i1,i2,_,i4⟩|⟨i1,i2⟩
  ·rw [y08 i1 (by simpa using i2)]
   simp only [g57,it0_eq,z01,z02,z0e,c1,i4]
  ·rw [x2j (fun i hi=>by simpa using i1 i hi)]
   simp only [g57,it0_eq,z01,z02,z0e,c1,i2]
theorem v6d {S c:List Pt} (hc:Cyc S c) (hbx:∀ x∈c,z0s (-10000) 10000 x) (hl:c.length≤100000) {p:Pt} (hp:Big p) {den:Int} (hd:1≤den) (hd2:den≤268435456):
  G43 std (z0b c,p.1,p.2,den,())=some (inC c p den,()):=by
 unfold G43
 have hl1:1≤c.length:=by
  match c,hc with
  |a::r,_=>simp
 by_cases h1:c.length=1
 ·obtain ⟨a,ha⟩:∃ a,c=[a]:=by
   match c,h1 with
   |[a],_=>exact ⟨a,rfl⟩
  subst ha
  have ga:=z0w (l:=[a]) (i:=0) rfl
  obtain ⟨_,⟨w1,w2⟩,⟨w5,w6⟩,_⟩:=z9k (hbx a (by simp)) (hbx a (by simp)) hp hd hd2
  have z0:(0:Int).toNat=0:=rfl
  have c1:(([a]:List Pt).length:Int)=1:=rfl
  have c1':((1:Nat):Int)=1:=rfl
  have hin:inC [a] p den=decide (p=ml a den):=rfl
  have v1:IntKind.i64.wrap ((0:Int)+1)=1:=by decide
  have t1:(1:Int).tmod 1=0:=by decide
  have q3:(0:Int)<1:=by omega
  have q4:¬ (1:Int)=0:=by omega
  have q5:(0:Int)≥0:=by omega
  rw [hin]
  have hstep:y3n std (p.1,p.2,den,z0b [a],(1:Int),(0:Int),())=some (.inr (.inl (decide (p=ml a den),()))):=by
   have e1:(sb p (ml a den)).1=0↔p.1=(ml a den).1:=by simp only [sb]; omega
   have e2:(sb p (ml a den)).2=0↔p.2=(ml a den).2:=by simp only [sb]; omega
   by_cases k1:(sb p (ml a den)).1=0
   ·by_cases k2:(sb p (ml a den)).2=0
    ·have:p=ml a den:=Prod.ext (e1.1 k1) (e2.1 k2)
     simp only [y3n,z01,z02,z0p,z1b,z1a,z27,z0v,z0e,z0,ga,z09,z0o,z0f,z1r,v1,t1,w1,w2,w5,w6,q3,q4,q5,eq_true k1,eq_true k2,eq_true this,not_false_eq_true]
    ·have:¬ p=ml a den:=fun e=>k2 (e2.2 (by rw [e]))
     simp only [y3n,z01,z02,z0p,z1b,z1a,z27,z0v,z0e,z0,ga,z09,z0o,z0f,z1r,v1,t1,w1,w2,w5,w6,q3,q4,q5,eq_true k1,k2,this,not_false_eq_true]
   ·have:¬ p=ml a den:=fun e=>k1 (e1.2 (by rw [e]))
    simp only [y3n,z01,z02,z0p,z1b,z1a,z27,z0v,z0e,z0,ga,z09,z0o,z0f,z1r,v1,t1,w1,w2,w5,w6,q3,q4,q5,k1,this,not_false_eq_true]
  have hit:z4m (y3n std) (p.1,p.2,den,z0b [a],(1:Int),(0:Int),())=some (.inl (decide (p=ml a den),())):=by rw [z0k,hstep]
  simp only [g43,it0_eq,z9d,z5m,z5d,z2j,z4r,z0e,c1,hit,Option.bind_some,Sum.elim_inl]
 ·have h2:2≤c.length:=by omega
  have c1:¬ (c.length:Int)=1:=by omega
  have key:=z3w (b:=y3n std) c.length (fun i=>(p.1,p.2,den,z0b c,(c.length:Int),(i:Int),())) (fun i=>!y4t c.length (c.getD i (0,0)) (c.getD ((i+1) % c.length) (0,0)) p den)
   (fun i=> .inl (false,())) (.inr ()) (fun i hi=>by
   obtain ⟨a,ha⟩:=z0q hi
   obtain ⟨b,hb⟩:=z0q (l:=c) (i:=(i+1) % c.length) (Nat.mod_lt _ (by omega))
   have ga:=z0w ha
   have gb:=z0w hb
   rw [y5b ha,y5b hb]
   obtain ⟨⟨w1,w2⟩,⟨w3,w4⟩,⟨w5,w6⟩,⟨w7,w8⟩,⟨w9,w10⟩,w11,w12⟩:=z9k (hbx a (List.mem_of_getElem? ha)) (hbx b (List.mem_of_getElem? hb)) hp hd hd2
   obtain ⟨m1,m2⟩:=x3s (i:=i) (n:=c.length) (by omega) (by omega)
   have c2:(i:Int)<(c.length:Int):=by omega
   have c3:(i:Int)≥0:=by omega
   have c4:¬ (c.length:Int)=0:=by omega
   have c5:(((i+1) % c.length:Nat):Int)≥0:=by omega
   have c6:(((i+1) % c.length:Nat):Int)<(c.length:Int):=by have:=Nat.mod_lt (i+1) (show 0<c.length by omega); omega
   unfold y4t
   by_cases k1:crs (sb b a) (sb p (ml a den))<0
   ·simp only [y3n,z01,z02,z0p,z1b,z1a,z27,z0v,z0e,z0f,z0o,z09,z1r,m1,m2,ga,gb,w1,w2,w3,w4,w5,w6,w7,w8,w9,w10,w11,w12,c1,c2,c3,c4,c5,c6,k1,not_false_eq_true]
   ·by_cases k2:c.length=2
    ·have k2':(c.length:Int)=2:=by omega
     by_cases k3:dt (sb b a) (sb p (ml a den))<0
     ·simp only [y3n,z01,z02,z0p,z1b,z1a,z27,z0v,z0e,z0f,z0o,z09,z1r,m1,m2,ga,gb,w1,w2,w3,w4,w5,w6,w7,w8,w9,w10,w11,w12,c1,c2,c3,c4,c5,c6,k1,eq_true k2,eq_true k2',k3,not_false_eq_true]
     ·simp only [y3n,z01,z02,z0p,z1b,z1a,z27,z0v,z0e,z0f,z0o,z09,z1r,m1,m2,ga,gb,w1,w2,w3,w4,w5,w6,w7,w8,w9,w10,w11,w12,c1,c2,c3,c4,c5,c6,k1,eq_true k2,eq_true k2',k3,not_false_eq_true]
    ·have k2':¬ (c.length:Int)=2:=by omega
     simp only [y3n,z01,z02,z0p,z1b,z1a,z27,z0v,z0e,z0f,z0o,z09,z1r,m1,m2,ga,gb,w1,w2,w3,w4,w5,w6,w7,w8,w9,w10,w11,w12,c1,c2,c3,c4,c5,c6,k1,k2,k2',not_false_eq_true]) (by
   have hn:¬ ((c.length:Int)<(c.length:Int)):=by omega
   simp only [y3n,z01,z02,hn])
  have e0:(p.1,p.2,den,z0b c,(c.length:Int),((0:Nat):Int),())=(p.1,p.2,den,z0b c,(c.length:Int),(0:Int),()):=rfl
  rw [e0] at key
  unfold inC
  rw [if_neg h1]
  rcases key with ⟨i,i1,i2,_,i4⟩|⟨i1,i2⟩
  ·rw [y08 i1 (by simpa using i2)]
   simp only [g43,it0_eq,z01,z02,z0e,i4]
  ·rw [x2j (fun i hi=>by simpa using i1 i hi)]
   simp only [g43,it0_eq,z01,z02,z0e,i2]
end Go.Am
end
noncomputable section
namespace Go.Am
def v4m:Ctr:=
 ⟨78,[.list 2, .clo 66 [.agg [.int .i64, .int .i64]] []],[],[(.ret,⟨[(0, .int .i64)],[],1⟩)]⟩
def la78:List LA:=
 [⟨78,[false,true,false,true,true],0,⟨⟨[(1, .clo 66 [.agg [.int .i64, .int .i64]] []),(5, .int .i64),(13, .list 2),(14, .int .i64),(15, .int .i64)],[],26⟩,[((AX.exit 0),⟨[(5, .int .i64)],[],26⟩)]⟩⟩]
def ja78:List JA:=
 []
def v89:List CF:=
 []
def an78:Anns:=
 ⟨v89,ja78,[]⟩
def u0r (p:Prim):T59→Option T83:=
 fun a=>opt.run _ (
 opt.ask _ (p.cmp .lss a.2.2.2.2.2.1 a.2.2.2.2.1) (
 opt.need _ (p.rowOk a.2.2.2.1 (p.nat a.2.2.2.2.2.1) [ci,ci])<|
 opt.need _ (p.cmp .geq a.2.2.2.2.2.1 (0:Int))<|
 opt.ret _ (Sum.inl (a.1,(a.2.1,((p.mm .gtr a.2.2.1 (p.ar .add .i64 (p.ar .mul .i64 a.1 (p.rdI a.2.2.2.1 (p.nat a.2.2.2.2.2.1) 0)) (p.ar .mul .i64 a.2.1 (p.rdI a.2.2.2.1 (p.nat a.2.2.2.2.2.1) 1)))),(a.2.2.2.1,(a.2.2.2.2.1,((p.ar .add .i64 a.2.2.2.2.2.1 (1:Int)),())))))))) (
 opt.ret _ (Sum.inr (a.2.2.1,()))))
def g78 (it:It):(p:Prim)→(LD×T4)→Option T0:=
 fun p x=>
 opt.need _ (p.rowOk x.1 (p.nat (0:Int)) [ci,ci])<|
 opt.bnd T0 _ (
 it _ _ (u0r p) (x.2.1,(x.2.2.1,((p.ar .add .i64 (p.ar .mul .i64 x.2.1 (p.rdI x.1 (p.nat (0:Int)) 0)) (p.ar .mul .i64 x.2.2.1 (p.rdI x.1 (p.nat (0:Int)) 1))),(x.1,((p.ofNat (p.len x.1)),((0:Int),()))))))) fun a=>
 opt.ret _ (a.1,())
def G78:=g78 it0
theorem ok78:CtrOk PG v4m (G78 std):=okF (a:=an78) (l:=la78) (gN) (by kernel_rfl) fun _ _=>by kernel_rfl
def v4e:Ctr:=
 ⟨92,[.list 2, .list 2, .agg [.int .i64, .int .i64]],[],[(.ret,⟨[(0, .tuple [.int .i64, .bool])],[],1⟩)]⟩
def la92:List LA:=
 []
def ja92:List JA:=
 []
def v81:List CF:=
 [⟨v4m,G78⟩]
def an92:Anns:=
 ⟨v81,ja92,[]⟩
def g92 (it:It):(p:Prim)→(LD×(LD×T4))→Option ((Int×(Bool×Unit))):=
 fun p x=>
 opt.bnd T0 _ (g78 it p (x.1,(x.2.2.1,(x.2.2.2.1,())))) fun a=>
 opt.bnd T0 _ (g78 it p (x.2.1,((p.ar .sub .i64 (0:Int) x.2.2.1),((p.ar .sub .i64 (0:Int) x.2.2.2.1),())))) fun b=>
 opt.ret _ (a.1,((p.cmp .lss a.1 (p.ar .sub .i64 (0:Int) b.1)),()))
def G92:=g92 it0
theorem ok92:CtrOk PG v4e (G92 std):=okF (a:=an92) (l:=la92) (gC ok78 (gN)) (by kernel_rfl) fun _ _=>by kernel_rfl
def w4q:Ctr:=
 ⟨63,[.list 2, .list 2],[],[(.ret,⟨[(0, .tuple [.agg [.int .i64, .int .i64, .int .i64], .bool])],[],1⟩)]⟩
def la63:List LA:=
 [⟨63,[false,true,false,true,false,true],0,⟨⟨[(0, .list 2),(1, .list 2),(4, .bptr 0 0),(6, .bptr 1 0),(20, .list 2),(21, .int .i64),(22, .int .i64)],[.box [.int .i64, .int .i64, .int .i64], .box [.vec 2 2], .row [ci,ci]],94⟩,[((AX.exit 0),⟨[(0, .list 2),(1, .list 2),(4, .bptr 0 0),(6, .bptr 1 0)],[.box [.int .i64, .int .i64, .int .i64], .box [.vec 2 2], .row [ci,ci]],94⟩)]⟩⟩,
 ⟨63,[false,true,true,false,false,true,true,false,false,true,false,true,false,true],0,⟨⟨[(0, .list 2),(1, .list 2),(4, .bptr 0 0),(6, .bptr 1 0),(8, .bptr 2 0),(20, .list 2),(21, .int .i64),(22, .int .i64),(26, .list 2),(27, .int .i64),(28, .int .i64)],[.box [.int .i64, .int .i64, .int .i64], .box [.vec 3 2], .box [.int .i64, .int .i64], .row [ci,ci]],94⟩,[((AX.exit 2),⟨[(0, .list 2),(1, .list 2),(4, .bptr 0 0),(6, .bptr 1 0),(20, .list 2),(21, .int .i64),(22, .int .i64)],[.box [.int .i64, .int .i64, .int .i64], .box [.vec 2 2], .row [ci,ci]],94⟩)]⟩⟩,
 ⟨63,[false,true,false,true,true,false,true],0,⟨⟨[(0, .list 2),(1, .list 2),(4, .bptr 0 0),(6, .bptr 1 0),(42, .full 2 1),(43, .int .i64),(44, .int .i64)],[.box [.int .i64, .int .i64, .int .i64], .box [.vec 3 2], .row [(CK.list 2)], .row [ci,ci]],94⟩,[((AX.exit 4),⟨[(0, .list 2),(1, .list 2),(4, .bptr 0 0),(6, .bptr 1 0)],[.box [.int .i64, .int .i64, .int .i64], .box [.vec 2 2], .row [ci,ci]],94⟩)]⟩⟩,
 ⟨94,[false,true],6,⟨⟨[(0, .yld 5),(1, .bptr 4 0),(6, .list 2),(7, .int .i64),(8, .int .i64)],[.box [.int .i64, .int .i64, .int .i64], .box [.vec 6 2], .row [(CK.list 2)], .dead, .box [.list 2], .loop Go.LoopState.ready Option.none 63 [Bool.false,Bool.true,Bool.true,Bool.false,Bool.false,Bool.true,Bool.true,Bool.false,Bool.false,Bool.true,Bool.false,Bool.true,Bool.true,Bool.false,Bool.true] 94 [(49, .clo 94 [] [.bptr 4 0]),(43, .int .i64),(42, .full 2 1),(6, .bptr 1 0),(1, .list 2),(4, .bptr 0 0),(0, .list 2),(44, .int .i64)], .row [ci,ci]],33⟩,[(AX.ret,⟨[],[.box [.int .i64, .int .i64, .int .i64], .box [.vec 6 2], .row [(CK.list 2)], .dead, .box [.list 2], .loop Go.LoopState.ready Option.none 63 [Bool.false,Bool.true,Bool.true,Bool.false,Bool.false,Bool.true,Bool.true,Bool.false,Bool.false,Bool.true,Bool.false,Bool.true,Bool.true,Bool.false,Bool.true] 94 [(49, .clo 94 [] [.bptr 4 0]),(43, .int .i64),(42, .full 2 1),(6, .bptr 1 0),(1, .list 2),(4, .bptr 0 0),(0, .list 2),(44, .int .i64)], .row [ci,ci]],33⟩),((AX.exit 0),⟨[],[.box [.int .i64, .int .i64, .int .i64], .box [.vec 6 2], .row [(CK.list 2)], .dead, .box [.list 2], .loop Go.LoopState.ready Option.none 63 [Bool.false,Bool.true,Bool.true,Bool.false,Bool.false,Bool.true,Bool.true,Bool.false,Bool.false,Bool.true,Bool.false,Bool.true,Bool.true,Bool.false,Bool.true] 94 [(49, .clo 94 [] [.bptr 4 0]),(43, .int .i64),(42, .full 2 1),(6, .bptr 1 0),(1, .list 2),(4, .bptr 0 0),(0, .list 2),(44, .int .i64)], .row [ci,ci]],33⟩)]⟩⟩,
 ⟨63,[false,true,false,true,true,true,true,true,true,false,true],0,⟨⟨[(0, .list 2),(1, .list 2),(4, .bptr 0 0),(14, .bool),(15, .bptr 1 0),(71, .vec 2 2),(72, .int .i64),(73, .int .i64)],[.box [.int .i64, .int .i64, .int .i64], .box [.int .i64, .int .i64, .int .i64], .row [ci,ci]],94⟩,[((AX.exit 8),⟨[(4, .bptr 0 0),(14, .bool),(15, .bptr 1 0)],[.box [.int .i64, .int .i64, .int .i64], .box [.int .i64, .int .i64, .int .i64]],94⟩)]⟩⟩]
def ja63:List JA:=
 [⟨63,[true,true,false,false,true,true,false,false,true,false,true,true,false,true],0,[(AX.normal,⟨[(0, .list 2),(1, .list 2),(4, .bptr 0 0),(6, .bptr 1 0),(42, .full 2 1),(43, .int .i64),(44, .int .i64)],[.box [.int .i64, .int .i64, .int .i64], .box [.vec 3 2], .row [(CK.list 2)], .row [ci,ci]],94⟩)]⟩]
def v9i:List CF:=
 [⟨v4e,G92⟩]
def an63:Anns:=
 ⟨v9i,ja63,[]⟩
def w9o (it:It) (p:Prim):(LD×T84)→Option ((LD×T84)⊕(Int×(Int×(Int×(Int×(Int×(Int×(Bool×Unit)))))))):=
 fun a=>opt.run _ (
 opt.ask _ (p.cmp .lss a.2.2.2.2.2.2.2.2.2.2.2.1 a.2.2.2.2.2.2.2.2.2.2.1) (
 opt.need _ (bif (p.cmp .geq a.2.2.2.2.2.2.2.2.2.2.2.1 (0:Int)) then (p.cmp .lss a.2.2.2.2.2.2.2.2.2.2.2.1 (p.ofNat (p.len a.1))) else Bool.false)<|
 opt.need _ (p.rowOk a.1 (p.add 0 (p.nat a.2.2.2.2.2.2.2.2.2.2.2.1)) [ci,ci])<|
 opt.bnd ((Int×(Bool×Unit))) _ (g92 it p (a.2.2.2.2.2.2.2.1,(a.2.2.2.2.2.2.2.2.1,((p.rdI a.1 (p.add 0 (p.nat a.2.2.2.2.2.2.2.2.2.2.2.1)) 0),((p.rdI a.1 (p.add 0 (p.nat a.2.2.2.2.2.2.2.2.2.2.2.1)) 1),()))))) fun b=>
 opt.ask _ b.2.1 (
 opt.ret _ (Sum.inr (a.2.1,(a.2.2.1,(a.2.2.2.1,((p.rdI a.1 (p.add 0 (p.nat a.2.2.2.2.2.2.2.2.2.2.2.1)) 0),((p.rdI a.1 (p.add 0 (p.nat a.2.2.2.2.2.2.2.2.2.2.2.1)) 1),(b.1,(Bool.true,()))))))))) (
 opt.need _ (p.eqN 0 0)<|
 opt.need _ (p.eqN (p.len a.1) (p.len a.1))<|
 opt.ret _ (Sum.inl (a.1,(a.2.1,(a.2.2.1,(a.2.2.2.1,(a.2.2.2.2.1,(a.2.2.2.2.2.1,(a.2.2.2.2.2.2.1,(a.2.2.2.2.2.2.2.1,(a.2.2.2.2.2.2.2.2.1,(a.2.2.2.2.2.2.2.2.2.1,(a.2.2.2.2.2.2.2.2.2.2.1,((p.ar .add .i64 a.2.2.2.2.2.2.2.2.2.2.2.1 (1:Int)),()))))))))))))))) (
 opt.ret _ (Sum.inr (a.2.1,(a.2.2.1,(a.2.2.2.1,(a.2.2.2.2.1,(a.2.2.2.2.2.1,(a.2.2.2.2.2.2.1,(a.2.2.2.2.2.2.2.2.2.1,()))))))))))
def u0t (p:Prim):(LD×(LD×T85))→Option ((LD×(LD×T85))⊕((LD×(LD×T32))⊕(LD×(LD×T32)))):=
 fun a=>opt.run _ (
 opt.ask _ (p.cmp .lss a.2.2.2.2.2.2.2.2.2.2.2.2.1 a.2.2.2.2.2.2.2.2.2.2.2.1) (
 opt.need _ (p.rowOk a.2.2.2.2.2.2.2.2.2.2.1 (p.nat a.2.2.2.2.2.2.2.2.2.2.2.2.1) [ci,ci])<|
 opt.need _ (p.cmp .geq a.2.2.2.2.2.2.2.2.2.2.2.2.1 (0:Int))<|
 opt.need _ (p.cmp .neq (p.ofNat (p.len a.2.2.2.2.2.1)) (0:Int))<|
 opt.need _ (p.rowOk a.2.2.2.2.2.1 (p.nat (p.ar .rem .i64 (p.ar .add .i64 a.2.2.2.2.2.2.2.2.2.2.2.2.1 (1:Int)) (p.ofNat (p.len a.2.2.2.2.2.1)))) [ci,ci])<|
 opt.need _ (p.cmp .geq (p.ar .rem .i64 (p.ar .add .i64 a.2.2.2.2.2.2.2.2.2.2.2.2.1 (1:Int)) (p.ofNat (p.len a.2.2.2.2.2.1))) (0:Int))<|
 opt.ask _ (bif (p.cmp .eql (p.ar .sub .i64 (p.rdI a.2.2.2.2.2.1 (p.nat (p.ar .rem .i64 (p.ar .add .i64 a.2.2.2.2.2.2.2.2.2.2.2.2.1 (1:Int)) (p.ofNat (p.len a.2.2.2.2.2.1)))) 0) (p.rdI a.2.2.2.2.2.2.2.2.2.2.1 (p.nat a.2.2.2.2.2.2.2.2.2.2.2.2.1) 0)) (0:Int)) then (bif (p.cmp .eql (p.ar .sub .i64 (p.rdI a.2.2.2.2.2.1 (p.nat (p.ar .rem .i64 (p.ar .add .i64 a.2.2.2.2.2.2.2.2.2.2.2.2.1 (1:Int)) (p.ofNat (p.len a.2.2.2.2.2.1)))) 1) (p.rdI a.2.2.2.2.2.2.2.2.2.2.1 (p.nat a.2.2.2.2.2.2.2.2.2.2.2.2.1) 1)) (0:Int)) then Bool.true else Bool.false) else Bool.false) (
 opt.need _ (p.eqN 0 0)<|
 opt.need _ (p.eqN (p.len a.2.1) (p.len a.2.1))<|
 opt.need _ (p.eqN 0 0)<|
 opt.need _ (p.eqN (p.len a.1) (p.len a.1))<|
 opt.need _ (p.eqN (p.len a.1) (p.len a.1))<|
 opt.ret _ (Sum.inr (Sum.inl (a.1,(a.2.1,(a.2.2.1,(a.2.2.2.1,(a.2.2.2.2.1,(a.2.2.2.2.2.1,(a.2.2.2.2.2.2.1,(a.2.2.2.2.2.2.2.1,(a.2.2.2.2.2.2.2.2.1,(a.2.2.2.2.2.2.2.2.2.1,()))))))))))))) (
 opt.need _ (p.and (p.leN (p.add 0 2) (p.len [[(D.int .i64 (p.ar .sub .i64 (p.rdI a.2.2.2.2.2.1 (p.nat (p.ar .rem .i64 (p.ar .add .i64 a.2.2.2.2.2.2.2.2.2.2.2.2.1 (1:Int)) (p.ofNat (p.len a.2.2.2.2.2.1)))) 1) (p.rdI a.2.2.2.2.2.2.2.2.2.2.1 (p.nat a.2.2.2.2.2.2.2.2.2.2.2.2.1) 1))),(D.int .i64 (p.ar .sub .i64 (0:Int) (p.ar .sub .i64 (p.rdI a.2.2.2.2.2.1 (p.nat (p.ar .rem .i64 (p.ar .add .i64 a.2.2.2.2.2.2.2.2.2.2.2.2.1 (1:Int)) (p.ofNat (p.len a.2.2.2.2.2.1)))) 0) (p.rdI a.2.2.2.2.2.2.2.2.2.2.1 (p.nat a.2.2.2.2.2.2.2.2.2.2.2.2.1) 0))))],[(D.int .i64 (p.ar .sub .i64 (0:Int) (p.ar .sub .i64 (p.rdI a.2.2.2.2.2.1 (p.nat (p.ar .rem .i64 (p.ar .add .i64 a.2.2.2.2.2.2.2.2.2.2.2.2.1 (1:Int)) (p.ofNat (p.len a.2.2.2.2.2.1)))) 1) (p.rdI a.2.2.2.2.2.2.2.2.2.2.1 (p.nat a.2.2.2.2.2.2.2.2.2.2.2.2.1) 1)))),(D.int .i64 (p.ar .sub .i64 (p.rdI a.2.2.2.2.2.1 (p.nat (p.ar .rem .i64 (p.ar .add .i64 a.2.2.2.2.2.2.2.2.2.2.2.2.1 (1:Int)) (p.ofNat (p.len a.2.2.2.2.2.1)))) 0) (p.rdI a.2.2.2.2.2.2.2.2.2.2.1 (p.nat a.2.2.2.2.2.2.2.2.2.2.2.2.1) 0)))]])) (p.and (p.leN (p.add 0 (p.len a.2.1)) (p.len a.2.1)) (p.and (p.leN 1 2) (p.leN (p.add (p.len a.2.1) 2) 1000000))))<|
 opt.need _ (p.eqN 0 0)<|
 opt.need _ (p.eqN (p.add (p.len a.2.1) 2) (p.len (p.app (p.cut a.2.1 0 (p.len a.2.1)) (p.cut [[(D.int .i64 (p.ar .sub .i64 (p.rdI a.2.2.2.2.2.1 (p.nat (p.ar .rem .i64 (p.ar .add .i64 a.2.2.2.2.2.2.2.2.2.2.2.2.1 (1:Int)) (p.ofNat (p.len a.2.2.2.2.2.1)))) 1) (p.rdI a.2.2.2.2.2.2.2.2.2.2.1 (p.nat a.2.2.2.2.2.2.2.2.2.2.2.2.1) 1))),(D.int .i64 (p.ar .sub .i64 (0:Int) (p.ar .sub .i64 (p.rdI a.2.2.2.2.2.1 (p.nat (p.ar .rem .i64 (p.ar .add .i64 a.2.2.2.2.2.2.2.2.2.2.2.2.1 (1:Int)) (p.ofNat (p.len a.2.2.2.2.2.1)))) 0) (p.rdI a.2.2.2.2.2.2.2.2.2.2.1 (p.nat a.2.2.2.2.2.2.2.2.2.2.2.2.1) 0))))],[(D.int .i64 (p.ar .sub .i64 (0:Int) (p.ar .sub .i64 (p.rdI a.2.2.2.2.2.1 (p.nat (p.ar .rem .i64 (p.ar .add .i64 a.2.2.2.2.2.2.2.2.2.2.2.2.1 (1:Int)) (p.ofNat (p.len a.2.2.2.2.2.1)))) 1) (p.rdI a.2.2.2.2.2.2.2.2.2.2.1 (p.nat a.2.2.2.2.2.2.2.2.2.2.2.2.1) 1)))),(D.int .i64 (p.ar .sub .i64 (p.rdI a.2.2.2.2.2.1 (p.nat (p.ar .rem .i64 (p.ar .add .i64 a.2.2.2.2.2.2.2.2.2.2.2.2.1 (1:Int)) (p.ofNat (p.len a.2.2.2.2.2.1)))) 0) (p.rdI a.2.2.2.2.2.2.2.2.2.2.1 (p.nat a.2.2.2.2.2.2.2.2.2.2.2.2.1) 0)))]] 0 2))))<|
 opt.need _ (p.eqN 0 0)<|
 opt.need _ (p.eqN (p.len a.1) (p.len a.1))<|
 opt.need _ (p.eqN (p.len a.1) (p.len a.1))<|
 opt.ret _ (Sum.inl (a.1,((p.app (p.cut a.2.1 0 (p.len a.2.1)) (p.cut [[(D.int .i64 (p.ar .sub .i64 (p.rdI a.2.2.2.2.2.1 (p.nat (p.ar .rem .i64 (p.ar .add .i64 a.2.2.2.2.2.2.2.2.2.2.2.2.1 (1:Int)) (p.ofNat (p.len a.2.2.2.2.2.1)))) 1) (p.rdI a.2.2.2.2.2.2.2.2.2.2.1 (p.nat a.2.2.2.2.2.2.2.2.2.2.2.2.1) 1))),(D.int .i64 (p.ar .sub .i64 (0:Int) (p.ar .sub .i64 (p.rdI a.2.2.2.2.2.1 (p.nat (p.ar .rem .i64 (p.ar .add .i64 a.2.2.2.2.2.2.2.2.2.2.2.2.1 (1:Int)) (p.ofNat (p.len a.2.2.2.2.2.1)))) 0) (p.rdI a.2.2.2.2.2.2.2.2.2.2.1 (p.nat a.2.2.2.2.2.2.2.2.2.2.2.2.1) 0))))],[(D.int .i64 (p.ar .sub .i64 (0:Int) (p.ar .sub .i64 (p.rdI a.2.2.2.2.2.1 (p.nat (p.ar .rem .i64 (p.ar .add .i64 a.2.2.2.2.2.2.2.2.2.2.2.2.1 (1:Int)) (p.ofNat (p.len a.2.2.2.2.2.1)))) 1) (p.rdI a.2.2.2.2.2.2.2.2.2.2.1 (p.nat a.2.2.2.2.2.2.2.2.2.2.2.2.1) 1)))),(D.int .i64 (p.ar .sub .i64 (p.rdI a.2.2.2.2.2.1 (p.nat (p.ar .rem .i64 (p.ar .add .i64 a.2.2.2.2.2.2.2.2.2.2.2.2.1 (1:Int)) (p.ofNat (p.len a.2.2.2.2.2.1)))) 0) (p.rdI a.2.2.2.2.2.2.2.2.2.2.1 (p.nat a.2.2.2.2.2.2.2.2.2.2.2.2.1) 0)))]] 0 2)),(a.2.2.1,(a.2.2.2.1,(a.2.2.2.2.1,(a.2.2.2.2.2.1,(a.2.2.2.2.2.2.1,(a.2.2.2.2.2.2.2.1,(a.2.2.2.2.2.2.2.2.1,(a.2.2.2.2.2.2.2.2.2.1,(a.2.2.2.2.2.2.2.2.2.2.1,(a.2.2.2.2.2.2.2.2.2.2.2.1,((p.ar .add .i64 a.2.2.2.2.2.2.2.2.2.2.2.2.1 (1:Int)),())))))))))))))))) (
 opt.need _ (p.eqN 0 0)<|
 opt.need _ (p.eqN (p.len a.2.1) (p.len a.2.1))<|
 opt.need _ (p.eqN 0 0)<|
 opt.need _ (p.eqN (p.len a.1) (p.len a.1))<|
 opt.need _ (p.eqN (p.len a.1) (p.len a.1))<|
 opt.ret _ (Sum.inr (Sum.inr (a.1,(a.2.1,(a.2.2.1,(a.2.2.2.1,(a.2.2.2.2.1,(a.2.2.2.2.2.1,(a.2.2.2.2.2.2.1,(a.2.2.2.2.2.2.2.1,(a.2.2.2.2.2.2.2.2.1,(a.2.2.2.2.2.2.2.2.2.1,()))))))))))))))
def w9p (it:It) (p:Prim):(LD×(LD×T43))→Option ((LD×(LD×T43))⊕(LD×T44)):=
 fun a=>opt.run _ (
 opt.ask _ (p.cmp .lss a.2.2.2.2.2.2.2.2.1 a.2.2.2.2.2.2.2.1) (
 opt.need _ (bif (p.cmp .geq a.2.2.2.2.2.2.2.2.1 (0:Int)) then (p.cmp .lss a.2.2.2.2.2.2.2.2.1 (p.ofNat (p.len a.1))) else Bool.false)<|
 opt.need _ (p.rowOk a.1 (p.add 0 (p.nat a.2.2.2.2.2.2.2.2.1)) [(CK.list 2)])<|
 opt.bnd ((LD×(LD×T43))) _ (
 opt.run ((LD×(LD×T43))) (
 opt.need _ (p.eqN 0 0)<|
 opt.need _ (p.eqN (p.len a.2.1) (p.len a.2.1))<|
 opt.need _ (p.eqN 0 0)<|
 opt.need _ (p.eqN (p.len a.1) (p.len a.1))<|
 opt.need _ (p.eqN (p.len a.1) (p.len a.1))<|
 opt.alt ((LD×(LD×T32))) ((LD×(LD×T32))) _ (
 it _ _ (u0t p) (a.1,(a.2.1,(a.2.2.1,(a.2.2.2.1,(a.2.2.2.2.1,((p.rdL a.1 (p.add 0 (p.nat a.2.2.2.2.2.2.2.2.1)) 0),(a.2.2.2.2.2.2.2.1,(a.2.2.2.2.2.2.1,(a.2.2.2.2.2.1,(a.2.2.2.2.2.2.2.2.1,((p.rdL a.1 (p.add 0 (p.nat a.2.2.2.2.2.2.2.2.1)) 0),((p.ofNat (p.len (p.rdL a.1 (p.add 0 (p.nat a.2.2.2.2.2.2.2.2.1)) 0))),((0:Int),())))))))))))))) (fun b=>
 opt.need _ (p.eqN 0 0)<|
 opt.need _ (p.eqN (p.len b.2.1) (p.len b.2.1))<|
 opt.need _ (p.eqN 0 0)<|
 opt.need _ (p.eqN (p.len a.1) (p.len b.1))<|
 opt.need _ (p.eqN (p.len a.1) (p.len b.1))<|
 opt.ret _ (b.1,(b.2.1,(b.2.2.1,(b.2.2.2.1,(b.2.2.2.2.1,(a.2.2.2.2.2.1,(a.2.2.2.2.2.2.1,(a.2.2.2.2.2.2.2.1,(a.2.2.2.2.2.2.2.2.1,())))))))))) (fun c=>
 opt.bnd ((LD×(LD×T32))) _ (some c) fun d=>
 opt.need _ (p.eqN 0 0)<|
 opt.need _ (p.eqN (p.len d.2.1) (p.len d.2.1))<|
 opt.need _ (p.eqN 0 0)<|
 opt.need _ (p.eqN (p.len a.1) (p.len d.1))<|
 opt.need _ (p.eqN (p.len a.1) (p.len d.1))<|
 opt.ret _ (d.1,(d.2.1,(d.2.2.1,(d.2.2.2.1,(d.2.2.2.2.1,(a.2.2.2.2.2.1,(a.2.2.2.2.2.2.1,(a.2.2.2.2.2.2.2.1,(a.2.2.2.2.2.2.2.2.1,())))))))))))) fun e=>
 opt.need _ (p.eqN 0 0)<|
 opt.need _ (p.eqN (p.len e.2.1) (p.len e.2.1))<|
 opt.need _ (p.eqN 0 0)<|
 opt.need _ (p.eqN (p.len e.1) (p.len e.1))<|
 opt.need _ (p.eqN (p.len e.1) (p.len e.1))<|
 opt.ret _ (Sum.inl (e.1,(e.2.1,(e.2.2.1,(e.2.2.2.1,(e.2.2.2.2.1,(e.2.2.2.2.2.1,(e.2.2.2.2.2.2.1,(e.2.2.2.2.2.2.2.1,((p.ar .add .i64 e.2.2.2.2.2.2.2.2.1 (1:Int)),()))))))))))) (
 opt.need _ (p.eqN 0 0)<|
 opt.need _ (p.eqN (p.len a.2.1) (p.len a.2.1))<|
 opt.ret _ (Sum.inr (a.2.1,(a.2.2.1,(a.2.2.2.1,(a.2.2.2.2.1,(a.2.2.2.2.2.1,(a.2.2.2.2.2.2.1,())))))))))
def u0u (p:Prim):(LD×T86)→Option ((LD×T86)⊕(LD×T45)):=
 fun a=>opt.run _ (
 opt.ask _ (p.cmp .lss a.2.2.2.2.2.2.2.2.2.2.2.2.2.1 a.2.2.2.2.2.2.2.2.2.2.2.2.1) (
 opt.need _ (p.rowOk a.2.2.2.2.2.2.2.2.2.2.2.1 (p.nat a.2.2.2.2.2.2.2.2.2.2.2.2.2.1) [ci,ci])<|
 opt.need _ (p.cmp .geq a.2.2.2.2.2.2.2.2.2.2.2.2.2.1 (0:Int))<|
 opt.need _ (p.and (p.leN (p.add 0 1) (p.len [[(D.int .i64 (p.ar .sub .i64 (p.rdI a.2.2.2.2.2.2.2.2.2.2.2.1 (p.nat a.2.2.2.2.2.2.2.2.2.2.2.2.2.1) 0) a.2.2.2.2.1)),(D.int .i64 (p.ar .sub .i64 (p.rdI a.2.2.2.2.2.2.2.2.2.2.2.1 (p.nat a.2.2.2.2.2.2.2.2.2.2.2.2.2.1) 1) a.2.2.2.2.2.1))]])) (p.and (p.leN (p.add 0 (p.len a.1)) (p.len a.1)) (p.and (p.leN 1 1) (p.leN (p.add (p.len a.1) 1) 1000000))))<|
 opt.need _ (p.eqN 0 0)<|
 opt.need _ (p.eqN (p.add (p.len a.1) 1) (p.len (p.app (p.cut a.1 0 (p.len a.1)) (p.cut [[(D.int .i64 (p.ar .sub .i64 (p.rdI a.2.2.2.2.2.2.2.2.2.2.2.1 (p.nat a.2.2.2.2.2.2.2.2.2.2.2.2.2.1) 0) a.2.2.2.2.1)),(D.int .i64 (p.ar .sub .i64 (p.rdI a.2.2.2.2.2.2.2.2.2.2.2.1 (p.nat a.2.2.2.2.2.2.2.2.2.2.2.2.2.1) 1) a.2.2.2.2.2.1))]] 0 1))))<|
 opt.ret _ (Sum.inl ((p.app (p.cut a.1 0 (p.len a.1)) (p.cut [[(D.int .i64 (p.ar .sub .i64 (p.rdI a.2.2.2.2.2.2.2.2.2.2.2.1 (p.nat a.2.2.2.2.2.2.2.2.2.2.2.2.2.1) 0) a.2.2.2.2.1)),(D.int .i64 (p.ar .sub .i64 (p.rdI a.2.2.2.2.2.2.2.2.2.2.2.1 (p.nat a.2.2.2.2.2.2.2.2.2.2.2.2.2.1) 1) a.2.2.2.2.2.1))]] 0 1)),(a.2.1,(a.2.2.1,(a.2.2.2.1,(a.2.2.2.2.1,(a.2.2.2.2.2.1,(a.2.2.2.2.2.2.1,(a.2.2.2.2.2.2.2.1,(a.2.2.2.2.2.2.2.2.1,(a.2.2.2.2.2.2.2.2.2.1,(a.2.2.2.2.2.2.2.2.2.2.1,(a.2.2.2.2.2.2.2.2.2.2.2.1,(a.2.2.2.2.2.2.2.2.2.2.2.2.1,((p.ar .add .i64 a.2.2.2.2.2.2.2.2.2.2.2.2.2.1 (1:Int)),())))))))))))))))) (
 opt.need _ (p.eqN 0 0)<|
 opt.need _ (p.eqN (p.len a.1) (p.len a.1))<|
 opt.ret _ (Sum.inr (a.1,(a.2.1,(a.2.2.1,(a.2.2.2.1,(a.2.2.2.2.2.2.1,(a.2.2.2.2.2.2.2.1,(a.2.2.2.2.2.2.2.2.1,(a.2.2.2.2.2.2.2.2.2.1,(a.2.2.2.2.2.2.2.2.2.2.1,()))))))))))))
def w9q (it:It) (p:Prim):(LD×T45)→Option ((LD×T45)⊕(LD×T44)):=
 fun a=>opt.run _ (
 opt.ask _ (p.cmp .lss a.2.2.2.2.2.2.2.2.1 a.2.2.2.2.2.2.2.1) (
 opt.need _ (p.rowOk a.2.2.2.2.2.2.1 (p.nat a.2.2.2.2.2.2.2.2.1) [ci,ci])<|
 opt.need _ (p.cmp .geq a.2.2.2.2.2.2.2.2.1 (0:Int))<|
 opt.need _ (p.eqN 0 0)<|
 opt.need _ (p.eqN (p.len a.1) (p.len a.1))<|
 opt.bnd ((LD×T45)) _ (
 it _ _ (u0u p) (a.1,(a.2.1,(a.2.2.1,(a.2.2.2.1,((p.rdI a.2.2.2.2.2.2.1 (p.nat a.2.2.2.2.2.2.2.2.1) 0),((p.rdI a.2.2.2.2.2.2.1 (p.nat a.2.2.2.2.2.2.2.2.1) 1),(a.2.2.2.2.1,(a.2.2.2.2.2.1,(a.2.2.2.2.2.2.1,(a.2.2.2.2.2.2.2.1,(a.2.2.2.2.2.2.2.2.1,(a.2.2.2.2.2.1,((p.ofNat (p.len a.2.2.2.2.2.1)),((0:Int),()))))))))))))))) fun b=>
 opt.need _ (p.eqN 0 0)<|
 opt.need _ (p.eqN (p.len b.1) (p.len b.1))<|
 opt.ret _ (Sum.inl (b.1,(b.2.1,(b.2.2.1,(b.2.2.2.1,(b.2.2.2.2.1,(b.2.2.2.2.2.1,(b.2.2.2.2.2.2.1,(b.2.2.2.2.2.2.2.1,((p.ar .add .i64 b.2.2.2.2.2.2.2.2.1 (1:Int)),()))))))))))) (
 opt.need _ (p.eqN 0 0)<|
 opt.need _ (p.eqN (p.len a.1) (p.len a.1))<|
 opt.ret _ (Sum.inr (a.1,(a.2.1,(a.2.2.1,(a.2.2.2.1,(a.2.2.2.2.1,(a.2.2.2.2.2.1,())))))))))
def g63 (it:It):(p:Prim)→(LD×(LD×Unit))→Option T27:=
 fun p x=>
 opt.bnd ((LD×T44)) _ (
 it _ _ (w9q it p) ([],((0:Int),((0:Int),((0:Int),(x.1,(x.2.1,(x.1,((p.ofNat (p.len x.1)),((0:Int),())))))))))) fun a=>
 opt.need _ (p.eqN 0 0)<|
 opt.need _ (p.eqN (p.len a.1) (p.len a.1))<|
 opt.need _ (p.eqN 0 0)<|
 opt.need _ (p.eqN 2 (p.len [[(D.list Bool.false 2 a.2.2.2.2.1)],[(D.list Bool.false 2 a.2.2.2.2.2.1)]]))<|
 opt.need _ (p.eqN 2 (p.len [[(D.list Bool.false 2 a.2.2.2.2.1)],[(D.list Bool.false 2 a.2.2.2.2.2.1)]]))<|
 opt.bnd ((LD×T44)) _ (
 it _ _ (w9p it p) ([[(D.list Bool.false 2 a.2.2.2.2.1)],[(D.list Bool.false 2 a.2.2.2.2.2.1)]],(a.1,(a.2.1,(a.2.2.1,(a.2.2.2.1,(a.2.2.2.2.1,(a.2.2.2.2.2.1,((p.ofNat 2),((0:Int),())))))))))) fun b=>
 opt.need _ (p.eqN 0 0)<|
 opt.need _ (p.eqN (p.len b.1) (p.len b.1))<|
 opt.bnd T61 _ (
 it _ _ (w9o it p) (b.1,(b.2.1,(b.2.2.1,(b.2.2.2.1,((0:Int),((0:Int),((0:Int),(b.2.2.2.2.1,(b.2.2.2.2.2.1,(Bool.false,((p.ofNat (p.len b.1)),((0:Int),()))))))))))))) fun c=>
 opt.ret _ (c.2.2.2.1,(c.2.2.2.2.1,(c.2.2.2.2.2.1,(c.2.2.2.2.2.2.1,()))))
def G63:=g63 it0
theorem v7q:CtrOk PG w4q (G63 std):=okF (a:=an63) (l:=la63) (gC ok92 (gN)) (by kernel_rfl) fun _ _=>by kernel_rfl
end Go.Am
end
noncomputable section
namespace Go.Am
def v43:Ctr:=
 ⟨32,[.agg [.list 2, .list 1], .agg [.list 2, .list 1]],[],[(.ret,⟨[(0, .tuple [.agg [.int .i64, .int .i64, .int .i64], .int .i64])],[],1⟩)]⟩
def la32:List LA:=
 []
def ja32:List JA:=
 []
def v93:List CF:=
 [⟨w4q,G63⟩,⟨x7y,G62⟩]
def an32:Anns:=
 ⟨v93,ja32,[]⟩
def g32 (it:It):(p:Prim)→(LD×(LD×(LD×(LD×Unit))))→Option T8:=
 fun p x=>
 opt.alt T0 (((LD×(LD×(LD×T2)))⊕((LD×(LD×(LD×T2)))⊕(LD×(LD×(LD×(LD×(LD×(LD×T2))))))))) _ (g62 it p (x.1,(x.2.1,(x.2.2.1,(x.2.2.2.1,()))))) (fun a=>
 opt.ask _ (p.cmp .neq a.1 (0:Int)) (
 opt.ret _ ((0:Int),((0:Int),((0:Int),(a.1,()))))) (
 opt.no _ 41)) (fun b=>
 opt.alt ((LD×(LD×(LD×T2)))) (((LD×(LD×(LD×T2)))⊕(LD×(LD×(LD×(LD×(LD×(LD×T2)))))))) _ (some b) (fun c=>
 opt.ask _ (p.cmp .neq c.2.2.2.1 (0:Int)) (
 opt.ret _ ((0:Int),((0:Int),((0:Int),(c.2.2.2.1,()))))) (
 opt.no _ 41)) (fun d=>
 opt.alt ((LD×(LD×(LD×T2)))) ((LD×(LD×(LD×(LD×(LD×(LD×T2))))))) _ (some d) (fun e=>
 opt.ask _ (p.cmp .neq e.2.2.2.1 (0:Int)) (
 opt.ret _ ((0:Int),((0:Int),((0:Int),(e.2.2.2.1,()))))) (
 opt.no _ 41)) (fun f=>
 opt.bnd ((LD×(LD×(LD×(LD×(LD×(LD×T2))))))) _ (some f) fun g=>
 opt.ask _ (p.cmp .neq g.2.2.2.2.2.2.1 (0:Int)) (
 opt.ret _ ((0:Int),((0:Int),((0:Int),(g.2.2.2.2.2.2.1,()))))) (
 opt.bnd T27 _ (g63 it p (g.2.2.1,(g.2.2.2.2.2.1,()))) fun h=>
 opt.ask _ (bif h.2.2.2.1 then Bool.false else Bool.true) (
 opt.ret _ ((0:Int),((0:Int),((0:Int),((21:Int),()))))) (
 opt.ret _ (h.1,(h.2.1,(h.2.2.1,((0:Int),())))))))))
def G32:=g32 it0
theorem ok32:CtrOk PG v43 (G32 std):=okF (a:=an32) (l:=la32) (gC v7q (gC v1e (gN))) (by kernel_rfl) fun _ _=>by kernel_rfl
end Go.Am
end
noncomputable section
namespace Go.Am
def w6d:Ctr:=
 ⟨78,[.list 2, .clo 66 [.agg [.int .i64, .int .i64]] []],[],[(.ret,⟨[(0, .int .i64)],[],1⟩)]⟩
def v8b:List LA:=
 [⟨78,[false,true,false,true,true],0,⟨⟨[(1, .clo 66 [.agg [.int .i64, .int .i64]] []),(5, .int .i64),(13, .list 2),(14, .int .i64),(15, .int .i64)],[],26⟩,[((AX.exit 0),⟨[(5, .int .i64)],[],26⟩)]⟩⟩]
def v8i:List JA:=
 []
def v3o:List CF:=
 []
def u1e:Anns:=
 ⟨v3o,v8i,[]⟩
def v5l (p:Prim):T59→Option T83:=
 fun a=>opt.run _ (
 opt.ask _ (p.cmp .lss a.2.2.2.2.2.1 a.2.2.2.2.1) (
 opt.need _ (p.rowOk a.2.2.2.1 (p.nat a.2.2.2.2.2.1) [ci,ci])<|
 opt.need _ (p.cmp .geq a.2.2.2.2.2.1 (0:Int))<|
 opt.ret _ (Sum.inl (a.1,(a.2.1,((p.mm .gtr a.2.2.1 (p.ar .add .i64 (p.ar .mul .i64 a.1 (p.rdI a.2.2.2.1 (p.nat a.2.2.2.2.2.1) 0)) (p.ar .mul .i64 a.2.1 (p.rdI a.2.2.2.1 (p.nat a.2.2.2.2.2.1) 1)))),(a.2.2.2.1,(a.2.2.2.2.1,((p.ar .add .i64 a.2.2.2.2.2.1 (1:Int)),())))))))) (
 opt.ret _ (Sum.inr (a.2.2.1,()))))
def v0u (it:It):(p:Prim)→(LD×T4)→Option T0:=
 fun p x=>
 opt.need _ (p.rowOk x.1 (p.nat (0:Int)) [ci,ci])<|
 opt.bnd T0 _ (
 it _ _ (v5l p) (x.2.1,(x.2.2.1,((p.ar .add .i64 (p.ar .mul .i64 x.2.1 (p.rdI x.1 (p.nat (0:Int)) 0)) (p.ar .mul .i64 x.2.2.1 (p.rdI x.1 (p.nat (0:Int)) 1))),(x.1,((p.ofNat (p.len x.1)),((0:Int),()))))))) fun a=>
 opt.ret _ (a.1,())
def u2s:=v0u it0
theorem v7p:CtrOk PG w6d (u2s std):=okF (a:=u1e) (l:=v8b) (gN) (by kernel_rfl) fun _ _=>by kernel_rfl
def v4y:Ctr:=
 ⟨39,[.agg [.list 2, .list 1], .agg [.list 2, .list 1], .agg [.int .i64, .int .i64, .int .i64]],[],[(.ret,⟨[(0, .int .i64)],[],1⟩)]⟩
def la39:List LA:=
 []
def ja39:List JA:=
 [⟨39,[true,true,true,false,false,true,true,true],0,[(AX.ret,⟨[(6, .int .i64)],[],90⟩),(AX.normal,⟨[],[],90⟩)]⟩,
 ⟨39,[true,false,false,true,true,true],0,[(AX.ret,⟨[(6, .int .i64)],[],90⟩),(AX.normal,⟨[],[],90⟩)]⟩]
def v9y:List CF:=
 [⟨w6d,u2s⟩,⟨w89,G77⟩,⟨x7y,G62⟩]
def an39:Anns:=
 ⟨v9y,ja39,[]⟩
def g39 (it:It):(p:Prim)→(LD×(LD×(LD×(LD×T6))))→Option T0:=
 fun p x=>
 opt.alt T0 (((LD×(LD×(LD×T2)))⊕((LD×(LD×(LD×T2)))⊕(LD×(LD×(LD×(LD×(LD×(LD×T2))))))))) _ (g62 it p (x.1,(x.2.1,(x.2.2.1,(x.2.2.2.1,()))))) (fun a=>
 opt.alt T0 (Unit) _ (
 opt.run T3 (
 opt.ask _ (p.cmp .neq a.1 (0:Int)) (
 opt.ret _ (Sum.inl (a.1,()))) (
 opt.ask _ (bif (p.cmp .eql x.2.2.2.2.1 (0:Int)) then (bif (p.cmp .eql x.2.2.2.2.2.1 (0:Int)) then Bool.true else Bool.false) else Bool.false) (
 opt.alt T0 (Unit) _ (
 opt.run T3 (
 opt.ret _ (Sum.inl ((2:Int),())))) (fun b=>
 opt.ret _ (Sum.inl (b.1,()))) (fun c=>
 opt.bnd (Unit) _ (some c) fun d=>
 opt.ret _ (Sum.inr ()))) (
 opt.bnd T0 _ (G77 p (x.2.2.2.2.1,())) fun e=>
 opt.bnd T0 _ (G77 p (x.2.2.2.2.2.1,())) fun f=>
 opt.ask _ (p.cmp .gtr (p.mm .gtr e.1 f.1) (1048576:Int)) (
 opt.alt T0 (Unit) _ (
 opt.run T3 (
 opt.ret _ (Sum.inl ((2:Int),())))) (fun g=>
 opt.ret _ (Sum.inl (g.1,()))) (fun h=>
 opt.bnd (Unit) _ (some h) fun i=>
 opt.ret _ (Sum.inr ()))) (
 opt.bnd T0 _ (G77 p (x.2.2.2.2.2.2.1,())) fun j=>
 opt.ask _ (p.cmp .gtr j.1 (1099511627776:Int)) (
 opt.alt T0 (Unit) _ (
 opt.run T3 (
 opt.ret _ (Sum.inl ((2:Int),())))) (fun k=>
 opt.ret _ (Sum.inl (k.1,()))) (fun l=>
 opt.bnd (Unit) _ (some l) fun m=>
 opt.ret _ (Sum.inr ()))) (
 opt.ask _ (p.cmp .lss (p.mm .lss x.2.2.2.2.1 x.2.2.2.2.2.1) (-1048576:Int)) (
 opt.alt T0 (Unit) _ (
 opt.run T3 (
 opt.ret _ (Sum.inl ((2:Int),())))) (fun n=>
 opt.ret _ (Sum.inl (n.1,()))) (fun o=>
 opt.bnd (Unit) _ (some o) fun q=>
 opt.ret _ (Sum.inr ()))) (
 opt.alt T0 (Unit) _ (
 opt.run T3 (
 opt.ask _ (p.cmp .lss x.2.2.2.2.2.2.1 (-1099511627776:Int)) (
 opt.ret _ (Sum.inl ((2:Int),()))) (
 opt.no _ 41))) (fun r=>
 opt.ret _ (Sum.inl (r.1,()))) (fun t=>
 opt.bnd (Unit) _ (some t) fun u=>
 opt.ret _ (Sum.inr ()))))))))) (fun v=>
 opt.ret _ (v.1,())) (fun w=>
 opt.bnd (Unit) _ (some w) fun z=>
 opt.ret _ ((0:Int),()))) (fun a1=>
 opt.alt ((LD×(LD×(LD×T2)))) (((LD×(LD×(LD×T2)))⊕(LD×(LD×(LD×(LD×(LD×(LD×T2)))))))) _ (some a1) (fun b1=>
 opt.alt T0 (Unit) _ (
 opt.run T3 (
 opt.ask _ (p.cmp .neq b1.2.2.2.1 (0:Int)) (
 opt.ret _ (Sum.inl (b1.2.2.2.1,()))) (
 opt.ask _ (bif (p.cmp .eql x.2.2.2.2.1 (0:Int)) then (bif (p.cmp .eql x.2.2.2.2.2.1 (0:Int)) then Bool.true else Bool.false) else Bool.false) (
 opt.alt T0 (Unit) _ (
 opt.run T3 (
 opt.ret _ (Sum.inl ((2:Int),())))) (fun c1=>
 opt.ret _ (Sum.inl (c1.1,()))) (fun d1=>
 opt.bnd (Unit) _ (some d1) fun e1=>
 opt.ret _ (Sum.inr ()))) (
 opt.bnd T0 _ (G77 p (x.2.2.2.2.1,())) fun f1=>
 opt.bnd T0 _ (G77 p (x.2.2.2.2.2.1,())) fun g1=>
 opt.ask _ (p.cmp .gtr (p.mm .gtr f1.1 g1.1) (1048576:Int)) (
 opt.alt T0 (Unit) _ (
 opt.run T3 (
 opt.ret _ (Sum.inl ((2:Int),())))) (fun h1=>
 opt.ret _ (Sum.inl (h1.1,()))) (fun i1=>
 opt.bnd (Unit) _ (some i1) fun j1=>
 opt.ret _ (Sum.inr ()))) (
 opt.bnd T0 _ (G77 p (x.2.2.2.2.2.2.1,())) fun k1=>
 opt.ask _ (p.cmp .gtr k1.1 (1099511627776:Int)) (
 opt.alt T0 (Unit) _ (
 opt.run T3 (
 opt.ret _ (Sum.inl ((2:Int),())))) (fun l1=>
 opt.ret _ (Sum.inl (l1.1,()))) (fun m1=>
 opt.bnd (Unit) _ (some m1) fun n1=>
 opt.ret _ (Sum.inr ()))) (
 opt.ask _ (p.cmp .lss (p.mm .lss x.2.2.2.2.1 x.2.2.2.2.2.1) (-1048576:Int)) (
 opt.alt T0 (Unit) _ (
 opt.run T3 (
 opt.ret _ (Sum.inl ((2:Int),())))) (fun o1=>
 opt.ret _ (Sum.inl (o1.1,()))) (fun q1=>
 opt.bnd (Unit) _ (some q1) fun r1=>
 opt.ret _ (Sum.inr ()))) (
 opt.alt T0 (Unit) _ (
 opt.run T3 (
 opt.ask _ (p.cmp .lss x.2.2.2.2.2.2.1 (-1099511627776:Int)) (
 opt.ret _ (Sum.inl ((2:Int),()))) (
 opt.no _ 41))) (fun t1=>
 opt.ret _ (Sum.inl (t1.1,()))) (fun u1=>
 opt.bnd (Unit) _ (some u1) fun v1=>
 opt.ret _ (Sum.inr ()))))))))) (fun w1=>
 opt.ret _ (w1.1,())) (fun z1=>
 opt.bnd (Unit) _ (some z1) fun a2=>
 opt.ret _ ((0:Int),()))) (fun b2=>
 opt.alt ((LD×(LD×(LD×T2)))) ((LD×(LD×(LD×(LD×(LD×(LD×T2))))))) _ (some b2) (fun c2=>
 opt.alt T0 (Unit) _ (
 opt.run T3 (
 opt.ask _ (p.cmp .neq c2.2.2.2.1 (0:Int)) (
 opt.ret _ (Sum.inl (c2.2.2.2.1,()))) (
 opt.ask _ (bif (p.cmp .eql x.2.2.2.2.1 (0:Int)) then (bif (p.cmp .eql x.2.2.2.2.2.1 (0:Int)) then Bool.true else Bool.false) else Bool.false) (
 opt.alt T0 (Unit) _ (
 opt.run T3 (
 opt.ret _ (Sum.inl ((2:Int),())))) (fun d2=>
 opt.ret _ (Sum.inl (d2.1,()))) (fun e2=>
 opt.bnd (Unit) _ (some e2) fun f2=>
 opt.ret _ (Sum.inr ()))) (
 opt.bnd T0 _ (G77 p (x.2.2.2.2.1,())) fun g2=>
 opt.bnd T0 _ (G77 p (x.2.2.2.2.2.1,())) fun h2=>
 opt.ask _ (p.cmp .gtr (p.mm .gtr g2.1 h2.1) (1048576:Int)) (
 opt.alt T0 (Unit) _ (
 opt.run T3 (
 opt.ret _ (Sum.inl ((2:Int),())))) (fun i2=>
 opt.ret _ (Sum.inl (i2.1,()))) (fun j2=>
 opt.bnd (Unit) _ (some j2) fun k2=>
 opt.ret _ (Sum.inr ()))) (
 opt.bnd T0 _ (G77 p (x.2.2.2.2.2.2.1,())) fun l2=>
 opt.ask _ (p.cmp .gtr l2.1 (1099511627776:Int)) (
 opt.alt T0 (Unit) _ (
 opt.run T3 (
 opt.ret _ (Sum.inl ((2:Int),())))) (fun m2=>
 opt.ret _ (Sum.inl (m2.1,()))) (fun n2=>
 opt.bnd (Unit) _ (some n2) fun o2=>
 opt.ret _ (Sum.inr ()))) (
 opt.ask _ (p.cmp .lss (p.mm .lss x.2.2.2.2.1 x.2.2.2.2.2.1) (-1048576:Int)) (
 opt.alt T0 (Unit) _ (
 opt.run T3 (
 opt.ret _ (Sum.inl ((2:Int),())))) (fun q2=>
 opt.ret _ (Sum.inl (q2.1,()))) (fun r2=>
 opt.bnd (Unit) _ (some r2) fun t2=>
 opt.ret _ (Sum.inr ()))) (
 opt.alt T0 (Unit) _ (
 opt.run T3 (
 opt.ask _ (p.cmp .lss x.2.2.2.2.2.2.1 (-1099511627776:Int)) (
 opt.ret _ (Sum.inl ((2:Int),()))) (
 opt.bnd T0 _ (v0u it p (c2.2.2.1,(x.2.2.2.2.1,(x.2.2.2.2.2.1,())))) fun u2=>
 opt.ask _ (p.cmp .gtr u2.1 x.2.2.2.2.2.2.1) (
 opt.ret _ (Sum.inl ((14:Int),()))) (
 opt.no _ 41)))) (fun v2=>
 opt.ret _ (Sum.inl (v2.1,()))) (fun w2=>
 opt.bnd (Unit) _ (some w2) fun z2=>
 opt.ret _ (Sum.inr ()))))))))) (fun a3=>
 opt.ret _ (a3.1,())) (fun b3=>
 opt.bnd (Unit) _ (some b3) fun c3=>
 opt.ret _ ((0:Int),()))) (fun d3=>
 opt.bnd ((LD×(LD×(LD×(LD×(LD×(LD×T2))))))) _ (some d3) fun e3=>
 opt.alt T0 (Unit) _ (
 opt.run T3 (
 opt.ask _ (p.cmp .neq e3.2.2.2.2.2.2.1 (0:Int)) (
 opt.ret _ (Sum.inl (e3.2.2.2.2.2.2.1,()))) (
 opt.ask _ (bif (p.cmp .eql x.2.2.2.2.1 (0:Int)) then (bif (p.cmp .eql x.2.2.2.2.2.1 (0:Int)) then Bool.true else Bool.false) else Bool.false) (
 opt.alt T0 (Unit) _ (
 opt.run T3 (
 opt.ret _ (Sum.inl ((2:Int),())))) (fun f3=>
 opt.ret _ (Sum.inl (f3.1,()))) (fun g3=>
 opt.bnd (Unit) _ (some g3) fun h3=>
 opt.ret _ (Sum.inr ()))) (
 opt.bnd T0 _ (G77 p (x.2.2.2.2.1,())) fun i3=>
 opt.bnd T0 _ (G77 p (x.2.2.2.2.2.1,())) fun j3=>
 opt.ask _ (p.cmp .gtr (p.mm .gtr i3.1 j3.1) (1048576:Int)) (
 opt.alt T0 (Unit) _ (
 opt.run T3 (
 opt.ret _ (Sum.inl ((2:Int),())))) (fun k3=>
 opt.ret _ (Sum.inl (k3.1,()))) (fun l3=>
 opt.bnd (Unit) _ (some l3) fun m3=>
 opt.ret _ (Sum.inr ()))) (
 opt.bnd T0 _ (G77 p (x.2.2.2.2.2.2.1,())) fun n3=>
 opt.ask _ (p.cmp .gtr n3.1 (1099511627776:Int)) (
 opt.alt T0 (Unit) _ (
 opt.run T3 (
 opt.ret _ (Sum.inl ((2:Int),())))) (fun o3=>
 opt.ret _ (Sum.inl (o3.1,()))) (fun q3=>
 opt.bnd (Unit) _ (some q3) fun r3=>
 opt.ret _ (Sum.inr ()))) (
 opt.ask _ (p.cmp .lss (p.mm .lss x.2.2.2.2.1 x.2.2.2.2.2.1) (-1048576:Int)) (
 opt.alt T0 (Unit) _ (
 opt.run T3 (
 opt.ret _ (Sum.inl ((2:Int),())))) (fun t3=>
 opt.ret _ (Sum.inl (t3.1,()))) (fun u3=>
 opt.bnd (Unit) _ (some u3) fun v3=>
 opt.ret _ (Sum.inr ()))) (
 opt.alt T0 (Unit) _ (
 opt.run T3 (
 opt.ask _ (p.cmp .lss x.2.2.2.2.2.2.1 (-1099511627776:Int)) (
 opt.ret _ (Sum.inl ((2:Int),()))) (
 opt.bnd T0 _ (v0u it p (e3.2.2.1,(x.2.2.2.2.1,(x.2.2.2.2.2.1,())))) fun w3=>
 opt.ask _ (p.cmp .gtr w3.1 x.2.2.2.2.2.2.1) (
 opt.ret _ (Sum.inl ((14:Int),()))) (
 opt.bnd T0 _ (v0u it p (e3.2.2.2.2.2.1,((p.ar .sub .i64 (0:Int) x.2.2.2.2.1),((p.ar .sub .i64 (0:Int) x.2.2.2.2.2.1),())))) fun z3=>
 opt.ask _ (p.cmp .leq (p.ar .sub .i64 (0:Int) z3.1) x.2.2.2.2.2.2.1) (
 opt.ret _ (Sum.inl ((14:Int),()))) (
 opt.ret _ (Sum.inr ())))))) (fun a4=>
 opt.ret _ (Sum.inl (a4.1,()))) (fun b4=>
 opt.bnd (Unit) _ (some b4) fun c4=>
 opt.ret _ (Sum.inr ()))))))))) (fun d4=>
 opt.ret _ (d4.1,())) (fun e4=>
 opt.bnd (Unit) _ (some e4) fun f4=>
 opt.ret _ ((0:Int),())))))
def G39:=g39 it0
theorem ok39:CtrOk PG v4y (G39 std):=okF (a:=an39) (l:=la39) (gC v7p (gC u1s (gC v1e (gN)))) (by kernel_rfl) fun _ _=>by kernel_rfl
end Go.Am
end
noncomputable section
namespace Go.Am
def v4x:Ctr:=
 ⟨40,[.agg [.list 2, .list 1], .agg [.list 2, .list 1], .agg [.int .i64, .int .i64, .int .i64]],[],[(.ret,⟨[(0, .int .i64)],[],1⟩)]⟩
def la40:List LA:=
 []
def ja40:List JA:=
 [⟨40,[true,true,true,false,false,true,true,true],0,[(AX.ret,⟨[(6, .int .i64)],[],67⟩),(AX.normal,⟨[],[],67⟩)]⟩,
 ⟨40,[false,true,true,false,false,true,true,true],0,[(AX.normal,⟨[(5, .bptr 0 0),(7, .nilp),(8, .nilp),(10, .bptr 1 0),(27, .bool)],[.box [.int .i64, .int .i64, .int .i64], .box [.int .i64, .int .i64]],67⟩),(AX.normal,⟨[(5, .bptr 0 0),(7, .nilp),(8, .bptr 1 0),(10, .bptr 2 0),(27, .bool)],[.box [.int .i64, .int .i64, .int .i64], .box [.list 2, .list 1, .list 2], .box [.int .i64, .int .i64]],67⟩),(AX.normal,⟨[(5, .bptr 0 0),(7, .bptr 1 0),(8, .nilp),(10, .bptr 2 0),(27, .bool)],[.box [.int .i64, .int .i64, .int .i64], .box [.list 2, .list 1, .list 2], .box [.int .i64, .int .i64]],67⟩),(AX.normal,⟨[(5, .bptr 0 0),(7, .bptr 1 0),(8, .bptr 2 0),(10, .bptr 3 0),(27, .bool)],[.box [.int .i64, .int .i64, .int .i64], .box [.list 2, .list 1, .list 2], .box [.list 2, .list 1, .list 2], .box [.int .i64, .int .i64]],67⟩)]⟩,
 ⟨40,[true,false,false,true,true,true],0,[(AX.ret,⟨[(6, .int .i64)],[],67⟩),(AX.normal,⟨[],[],67⟩)]⟩]
def v9x:List CF:=
 [⟨w04,G57⟩,⟨w05,G53⟩,⟨x7y,G62⟩]
def an40:Anns:=
 ⟨v9x,ja40,[]⟩
def g40 (it:It):(p:Prim)→(LD×(LD×(LD×(LD×T6))))→Option T0:=
 fun p x=>
 opt.alt T0 (((LD×(LD×(LD×T2)))⊕((LD×(LD×(LD×T2)))⊕(LD×(LD×(LD×(LD×(LD×(LD×T2))))))))) _ (g62 it p (x.1,(x.2.1,(x.2.2.1,(x.2.2.2.1,()))))) (fun a=>
 opt.alt T0 (Unit) _ (
 opt.run T3 (
 opt.ask _ (p.cmp .neq a.1 (0:Int)) (
 opt.ret _ (Sum.inl (a.1,()))) (
 opt.alt T46 T47 _ (
 opt.run T48 (
 opt.ask _ (p.cmp .lss x.2.2.2.2.2.2.1 (1:Int)) (
 opt.ret _ (Sum.inl (x.2.2.2.2.1,(x.2.2.2.2.2.1,(x.2.2.2.2.2.2.1,(x.2.2.2.2.1,(x.2.2.2.2.2.1,(Bool.true,())))))))) (
 opt.ask _ (p.cmp .gtr x.2.2.2.2.2.2.1 (268435456:Int)) (
 opt.ret _ (Sum.inl (x.2.2.2.2.1,(x.2.2.2.2.2.1,(x.2.2.2.2.2.2.1,(x.2.2.2.2.1,(x.2.2.2.2.2.1,(Bool.true,())))))))) (
 opt.need _ (p.and Bool.true (p.and Bool.true (p.and (p.leN (p.add 0 1) (p.len [[(D.int .i64 x.2.2.2.2.1),(D.int .i64 x.2.2.2.2.2.1)]])) Bool.true)))<|
 opt.bnd T1 _ (g53 it p ((-1099511627776:Int),((1099511627776:Int),((p.cut [[(D.int .i64 x.2.2.2.2.1),(D.int .i64 x.2.2.2.2.2.1)]] 0 1),())))) fun b=>
 opt.ret _ (Sum.inl (x.2.2.2.2.1,(x.2.2.2.2.2.1,(x.2.2.2.2.2.2.1,(x.2.2.2.2.1,(x.2.2.2.2.2.1,((bif b.1 then Bool.false else Bool.true),()))))))))))) (fun c=>
 opt.alt T0 (Unit) _ (
 opt.run T3 (
 opt.ask _ c.2.2.2.2.2.1 (
 opt.ret _ (Sum.inl ((2:Int),()))) (
 opt.no _ 41))) (fun d=>
 opt.ret _ (Sum.inl (d.1,()))) (fun e=>
 opt.bnd (Unit) _ (some e) fun f=>
 opt.ret _ (Sum.inr ()))) (fun g=>
 opt.alt T21 T49 _ (some g) (fun h=>
 opt.alt T0 (Unit) _ (
 opt.run T3 (
 opt.ask _ h.2.2.2.2.2.2.2.2.1 (
 opt.ret _ (Sum.inl ((2:Int),()))) (
 opt.no _ 41))) (fun i=>
 opt.ret _ (Sum.inl (i.1,()))) (fun j=>
 opt.bnd (Unit) _ (some j) fun k=>
 opt.ret _ (Sum.inr ()))) (fun l=>
 opt.alt T21 T22 _ (some l) (fun m=>
 opt.alt T0 (Unit) _ (
 opt.run T3 (
 opt.ask _ m.2.2.2.2.2.2.2.2.1 (
 opt.ret _ (Sum.inl ((2:Int),()))) (
 opt.bnd T1 _ (g57 it p (m.2.2.2.2.2.1,(m.2.2.2.2.2.2.1,(m.2.2.2.2.2.2.2.1,(m.2.2.1,()))))) fun n=>
 opt.ask _ (bif n.1 then Bool.false else Bool.true) (
 opt.ret _ (Sum.inl ((14:Int),()))) (
 opt.no _ 41)))) (fun o=>
 opt.ret _ (Sum.inl (o.1,()))) (fun q=>
 opt.bnd (Unit) _ (some q) fun r=>
 opt.ret _ (Sum.inr ()))) (fun t=>
 opt.bnd T22 _ (some t) fun u=>
 opt.alt T0 (Unit) _ (
 opt.run T3 (
 opt.ask _ u.2.2.2.2.2.2.2.2.2.2.2.1 (
 opt.ret _ (Sum.inl ((2:Int),()))) (
 opt.bnd T1 _ (g57 it p (u.2.2.2.2.2.1,(u.2.2.2.2.2.2.2.2.2.1,(u.2.2.2.2.2.2.2.2.2.2.1,(u.2.2.1,()))))) fun v=>
 opt.ask _ (bif v.1 then Bool.false else Bool.true) (
 opt.ret _ (Sum.inl ((14:Int),()))) (
 opt.bnd T1 _ (g57 it p (u.2.2.2.2.2.2.2.2.1,(u.2.2.2.2.2.2.2.2.2.1,(u.2.2.2.2.2.2.2.2.2.2.1,(u.2.2.1,()))))) fun w=>
 opt.ask _ (bif w.1 then Bool.false else Bool.true) (
 opt.ret _ (Sum.inl ((14:Int),()))) (
 opt.ret _ (Sum.inr ())))))) (fun z=>
 opt.ret _ (Sum.inl (z.1,()))) (fun a1=>
 opt.bnd (Unit) _ (some a1) fun b1=>
 opt.ret _ (Sum.inr ())))))))) (fun c1=>
 opt.ret _ (c1.1,())) (fun d1=>
 opt.bnd (Unit) _ (some d1) fun e1=>
 opt.ret _ ((0:Int),()))) (fun f1=>
 opt.alt ((LD×(LD×(LD×T2)))) (((LD×(LD×(LD×T2)))⊕(LD×(LD×(LD×(LD×(LD×(LD×T2)))))))) _ (some f1) (fun g1=>
 opt.alt T0 (Unit) _ (
 opt.run T3 (
 opt.ask _ (p.cmp .neq g1.2.2.2.1 (0:Int)) (
 opt.ret _ (Sum.inl (g1.2.2.2.1,()))) (
 opt.alt T46 T47 _ (
 opt.run T48 (
 opt.ask _ (p.cmp .lss x.2.2.2.2.2.2.1 (1:Int)) (
 opt.ret _ (Sum.inr (Sum.inl (x.2.2.2.2.1,(x.2.2.2.2.2.1,(x.2.2.2.2.2.2.1,(g1.1,(g1.2.1,(g1.2.2.1,(x.2.2.2.2.1,(x.2.2.2.2.2.1,(Bool.true,())))))))))))) (
 opt.ask _ (p.cmp .gtr x.2.2.2.2.2.2.1 (268435456:Int)) (
 opt.ret _ (Sum.inr (Sum.inl (x.2.2.2.2.1,(x.2.2.2.2.2.1,(x.2.2.2.2.2.2.1,(g1.1,(g1.2.1,(g1.2.2.1,(x.2.2.2.2.1,(x.2.2.2.2.2.1,(Bool.true,())))))))))))) (
 opt.need _ (p.and Bool.true (p.and Bool.true (p.and (p.leN (p.add 0 1) (p.len [[(D.int .i64 x.2.2.2.2.1),(D.int .i64 x.2.2.2.2.2.1)]])) Bool.true)))<|
 opt.bnd T1 _ (g53 it p ((-1099511627776:Int),((1099511627776:Int),((p.cut [[(D.int .i64 x.2.2.2.2.1),(D.int .i64 x.2.2.2.2.2.1)]] 0 1),())))) fun h1=>
 opt.ret _ (Sum.inr (Sum.inl (x.2.2.2.2.1,(x.2.2.2.2.2.1,(x.2.2.2.2.2.2.1,(g1.1,(g1.2.1,(g1.2.2.1,(x.2.2.2.2.1,(x.2.2.2.2.2.1,((bif h1.1 then Bool.false else Bool.true),()))))))))))))))) (fun i1=>
 opt.alt T0 (Unit) _ (
 opt.run T3 (
 opt.ask _ i1.2.2.2.2.2.1 (
 opt.ret _ (Sum.inl ((2:Int),()))) (
 opt.no _ 41))) (fun j1=>
 opt.ret _ (Sum.inl (j1.1,()))) (fun k1=>
 opt.bnd (Unit) _ (some k1) fun l1=>
 opt.ret _ (Sum.inr ()))) (fun m1=>
 opt.alt T21 T49 _ (some m1) (fun n1=>
 opt.alt T0 (Unit) _ (
 opt.run T3 (
 opt.ask _ n1.2.2.2.2.2.2.2.2.1 (
 opt.ret _ (Sum.inl ((2:Int),()))) (
 opt.no _ 41))) (fun o1=>
 opt.ret _ (Sum.inl (o1.1,()))) (fun q1=>
 opt.bnd (Unit) _ (some q1) fun r1=>
 opt.ret _ (Sum.inr ()))) (fun t1=>
 opt.alt T21 T22 _ (some t1) (fun u1=>
 opt.alt T0 (Unit) _ (
 opt.run T3 (
 opt.ask _ u1.2.2.2.2.2.2.2.2.1 (
 opt.ret _ (Sum.inl ((2:Int),()))) (
 opt.bnd T1 _ (g57 it p (u1.2.2.2.2.2.1,(u1.2.2.2.2.2.2.1,(u1.2.2.2.2.2.2.2.1,(u1.2.2.1,()))))) fun v1=>
 opt.ask _ (bif v1.1 then Bool.false else Bool.true) (
 opt.ret _ (Sum.inl ((14:Int),()))) (
 opt.no _ 41)))) (fun w1=>
 opt.ret _ (Sum.inl (w1.1,()))) (fun z1=>
 opt.bnd (Unit) _ (some z1) fun a2=>
 opt.ret _ (Sum.inr ()))) (fun b2=>
 opt.bnd T22 _ (some b2) fun c2=>
 opt.alt T0 (Unit) _ (
 opt.run T3 (
 opt.ask _ c2.2.2.2.2.2.2.2.2.2.2.2.1 (
 opt.ret _ (Sum.inl ((2:Int),()))) (
 opt.bnd T1 _ (g57 it p (c2.2.2.2.2.2.1,(c2.2.2.2.2.2.2.2.2.2.1,(c2.2.2.2.2.2.2.2.2.2.2.1,(c2.2.2.1,()))))) fun d2=>
 opt.ask _ (bif d2.1 then Bool.false else Bool.true) (
 opt.ret _ (Sum.inl ((14:Int),()))) (
 opt.bnd T1 _ (g57 it p (c2.2.2.2.2.2.2.2.2.1,(c2.2.2.2.2.2.2.2.2.2.1,(c2.2.2.2.2.2.2.2.2.2.2.1,(c2.2.2.1,()))))) fun e2=>
 opt.ask _ (bif e2.1 then Bool.false else Bool.true) (
 opt.ret _ (Sum.inl ((14:Int),()))) (
 opt.ret _ (Sum.inr ())))))) (fun f2=>
 opt.ret _ (Sum.inl (f2.1,()))) (fun g2=>
 opt.bnd (Unit) _ (some g2) fun h2=>
 opt.ret _ (Sum.inr ())))))))) (fun i2=>
 opt.ret _ (i2.1,())) (fun j2=>
 opt.bnd (Unit) _ (some j2) fun k2=>
 opt.ret _ ((0:Int),()))) (fun l2=>
 opt.alt ((LD×(LD×(LD×T2)))) ((LD×(LD×(LD×(LD×(LD×(LD×T2))))))) _ (some l2) (fun m2=>
 opt.alt T0 (Unit) _ (
 opt.run T3 (
 opt.ask _ (p.cmp .neq m2.2.2.2.1 (0:Int)) (
 opt.ret _ (Sum.inl (m2.2.2.2.1,()))) (
 opt.alt T46 T47 _ (
 opt.run T48 (
 opt.ask _ (p.cmp .lss x.2.2.2.2.2.2.1 (1:Int)) (
 opt.ret _ (Sum.inr (Sum.inr (Sum.inl (x.2.2.2.2.1,(x.2.2.2.2.2.1,(x.2.2.2.2.2.2.1,(m2.1,(m2.2.1,(m2.2.2.1,(x.2.2.2.2.1,(x.2.2.2.2.2.1,(Bool.true,()))))))))))))) (
 opt.ask _ (p.cmp .gtr x.2.2.2.2.2.2.1 (268435456:Int)) (
 opt.ret _ (Sum.inr (Sum.inr (Sum.inl (x.2.2.2.2.1,(x.2.2.2.2.2.1,(x.2.2.2.2.2.2.1,(m2.1,(m2.2.1,(m2.2.2.1,(x.2.2.2.2.1,(x.2.2.2.2.2.1,(Bool.true,()))))))))))))) (
 opt.need _ (p.and Bool.true (p.and Bool.true (p.and (p.leN (p.add 0 1) (p.len [[(D.int .i64 x.2.2.2.2.1),(D.int .i64 x.2.2.2.2.2.1)]])) Bool.true)))<|
 opt.bnd T1 _ (g53 it p ((-1099511627776:Int),((1099511627776:Int),((p.cut [[(D.int .i64 x.2.2.2.2.1),(D.int .i64 x.2.2.2.2.2.1)]] 0 1),())))) fun n2=>
 opt.ret _ (Sum.inr (Sum.inr (Sum.inl (x.2.2.2.2.1,(x.2.2.2.2.2.1,(x.2.2.2.2.2.2.1,(m2.1,(m2.2.1,(m2.2.2.1,(x.2.2.2.2.1,(x.2.2.2.2.2.1,((bif n2.1 then Bool.false else Bool.true),())))))))))))))))) (fun o2=>
 opt.alt T0 (Unit) _ (
 opt.run T3 (
 opt.ask _ o2.2.2.2.2.2.1 (
 opt.ret _ (Sum.inl ((2:Int),()))) (
 opt.no _ 41))) (fun q2=>
 opt.ret _ (Sum.inl (q2.1,()))) (fun r2=>
 opt.bnd (Unit) _ (some r2) fun t2=>
 opt.ret _ (Sum.inr ()))) (fun u2=>
 opt.alt T21 T49 _ (some u2) (fun v2=>
 opt.alt T0 (Unit) _ (
 opt.run T3 (
 opt.ask _ v2.2.2.2.2.2.2.2.2.1 (
 opt.ret _ (Sum.inl ((2:Int),()))) (
 opt.no _ 41))) (fun w2=>
 opt.ret _ (Sum.inl (w2.1,()))) (fun z2=>
 opt.bnd (Unit) _ (some z2) fun a3=>
 opt.ret _ (Sum.inr ()))) (fun b3=>
 opt.alt T21 T22 _ (some b3) (fun c3=>
 opt.alt T0 (Unit) _ (
 opt.run T3 (
 opt.ask _ c3.2.2.2.2.2.2.2.2.1 (
 opt.ret _ (Sum.inl ((2:Int),()))) (
 opt.bnd T1 _ (g57 it p (c3.2.2.2.2.2.1,(c3.2.2.2.2.2.2.1,(c3.2.2.2.2.2.2.2.1,(c3.2.2.1,()))))) fun d3=>
 opt.ask _ (bif d3.1 then Bool.false else Bool.true) (
 opt.ret _ (Sum.inl ((14:Int),()))) (
 opt.no _ 41)))) (fun e3=>
 opt.ret _ (Sum.inl (e3.1,()))) (fun f3=>
 opt.bnd (Unit) _ (some f3) fun g3=>
 opt.ret _ (Sum.inr ()))) (fun h3=>
 opt.bnd T22 _ (some h3) fun i3=>
 opt.alt T0 (Unit) _ (
 opt.run T3 (
 opt.ask _ i3.2.2.2.2.2.2.2.2.2.2.2.1 (
 opt.ret _ (Sum.inl ((2:Int),()))) (
 opt.bnd T1 _ (g57 it p (i3.2.2.2.2.2.1,(i3.2.2.2.2.2.2.2.2.2.1,(i3.2.2.2.2.2.2.2.2.2.2.1,(i3.2.2.1,()))))) fun j3=>
 opt.ask _ (bif j3.1 then Bool.false else Bool.true) (
 opt.ret _ (Sum.inl ((14:Int),()))) (
 opt.bnd T1 _ (g57 it p (i3.2.2.2.2.2.2.2.2.1,(i3.2.2.2.2.2.2.2.2.2.1,(i3.2.2.2.2.2.2.2.2.2.2.1,(i3.2.2.1,()))))) fun k3=>
 opt.ask _ (bif k3.1 then Bool.false else Bool.true) (
 opt.ret _ (Sum.inl ((14:Int),()))) (
 opt.ret _ (Sum.inr ())))))) (fun l3=>
 opt.ret _ (Sum.inl (l3.1,()))) (fun m3=>
 opt.bnd (Unit) _ (some m3) fun n3=>
 opt.ret _ (Sum.inr ())))))))) (fun o3=>
 opt.ret _ (o3.1,())) (fun q3=>
 opt.bnd (Unit) _ (some q3) fun r3=>
 opt.ret _ ((0:Int),()))) (fun t3=>
 opt.bnd ((LD×(LD×(LD×(LD×(LD×(LD×T2))))))) _ (some t3) fun u3=>
 opt.alt T0 (Unit) _ (
 opt.run T3 (
 opt.ask _ (p.cmp .neq u3.2.2.2.2.2.2.1 (0:Int)) (
 opt.ret _ (Sum.inl (u3.2.2.2.2.2.2.1,()))) (
 opt.alt T46 T47 _ (
 opt.run T48 (
 opt.ask _ (p.cmp .lss x.2.2.2.2.2.2.1 (1:Int)) (
 opt.ret _ (Sum.inr (Sum.inr (Sum.inr (x.2.2.2.2.1,(x.2.2.2.2.2.1,(x.2.2.2.2.2.2.1,(u3.1,(u3.2.1,(u3.2.2.1,(u3.2.2.2.1,(u3.2.2.2.2.1,(u3.2.2.2.2.2.1,(x.2.2.2.2.1,(x.2.2.2.2.2.1,(Bool.true,())))))))))))))))) (
 opt.ask _ (p.cmp .gtr x.2.2.2.2.2.2.1 (268435456:Int)) (
 opt.ret _ (Sum.inr (Sum.inr (Sum.inr (x.2.2.2.2.1,(x.2.2.2.2.2.1,(x.2.2.2.2.2.2.1,(u3.1,(u3.2.1,(u3.2.2.1,(u3.2.2.2.1,(u3.2.2.2.2.1,(u3.2.2.2.2.2.1,(x.2.2.2.2.1,(x.2.2.2.2.2.1,(Bool.true,())))))))))))))))) (
 opt.need _ (p.and Bool.true (p.and Bool.true (p.and (p.leN (p.add 0 1) (p.len [[(D.int .i64 x.2.2.2.2.1),(D.int .i64 x.2.2.2.2.2.1)]])) Bool.true)))<|
 opt.bnd T1 _ (g53 it p ((-1099511627776:Int),((1099511627776:Int),((p.cut [[(D.int .i64 x.2.2.2.2.1),(D.int .i64 x.2.2.2.2.2.1)]] 0 1),())))) fun v3=>
 opt.ret _ (Sum.inr (Sum.inr (Sum.inr (x.2.2.2.2.1,(x.2.2.2.2.2.1,(x.2.2.2.2.2.2.1,(u3.1,(u3.2.1,(u3.2.2.1,(u3.2.2.2.1,(u3.2.2.2.2.1,(u3.2.2.2.2.2.1,(x.2.2.2.2.1,(x.2.2.2.2.2.1,((bif v3.1 then Bool.false else Bool.true),()))))))))))))))))))) (fun w3=>
 opt.alt T0 (Unit) _ (
 opt.run T3 (
 opt.ask _ w3.2.2.2.2.2.1 (
 opt.ret _ (Sum.inl ((2:Int),()))) (
 opt.no _ 41))) (fun z3=>
 opt.ret _ (Sum.inl (z3.1,()))) (fun a4=>
 opt.bnd (Unit) _ (some a4) fun b4=>
 opt.ret _ (Sum.inr ()))) (fun c4=>
 opt.alt T21 T49 _ (some c4) (fun d4=>
 opt.alt T0 (Unit) _ (
 opt.run T3 (
 opt.ask _ d4.2.2.2.2.2.2.2.2.1 (
 opt.ret _ (Sum.inl ((2:Int),()))) (
 opt.no _ 41))) (fun e4=>
 opt.ret _ (Sum.inl (e4.1,()))) (fun f4=>
 opt.bnd (Unit) _ (some f4) fun g4=>
 opt.ret _ (Sum.inr ()))) (fun h4=>
 opt.alt T21 T22 _ (some h4) (fun i4=>
 opt.alt T0 (Unit) _ (
 opt.run T3 (
 opt.ask _ i4.2.2.2.2.2.2.2.2.1 (
 opt.ret _ (Sum.inl ((2:Int),()))) (
 opt.bnd T1 _ (g57 it p (i4.2.2.2.2.2.1,(i4.2.2.2.2.2.2.1,(i4.2.2.2.2.2.2.2.1,(i4.2.2.1,()))))) fun j4=>
 opt.ask _ (bif j4.1 then Bool.false else Bool.true) (
 opt.ret _ (Sum.inl ((14:Int),()))) (
 opt.no _ 41)))) (fun k4=>
 opt.ret _ (Sum.inl (k4.1,()))) (fun l4=>
 opt.bnd (Unit) _ (some l4) fun m4=>
 opt.ret _ (Sum.inr ()))) (fun n4=>
 opt.bnd T22 _ (some n4) fun o4=>
 opt.alt T0 (Unit) _ (
 opt.run T3 (
 opt.ask _ o4.2.2.2.2.2.2.2.2.2.2.2.1 (
 opt.ret _ (Sum.inl ((2:Int),()))) (
 opt.bnd T1 _ (g57 it p (o4.2.2.2.2.2.1,(o4.2.2.2.2.2.2.2.2.2.1,(o4.2.2.2.2.2.2.2.2.2.2.1,(o4.2.2.1,()))))) fun q4=>
 opt.ask _ (bif q4.1 then Bool.false else Bool.true) (
 opt.ret _ (Sum.inl ((14:Int),()))) (
 opt.bnd T1 _ (g57 it p (o4.2.2.2.2.2.2.2.2.1,(o4.2.2.2.2.2.2.2.2.2.1,(o4.2.2.2.2.2.2.2.2.2.2.1,(o4.2.2.1,()))))) fun r4=>
 opt.ask _ (bif r4.1 then Bool.false else Bool.true) (
 opt.ret _ (Sum.inl ((14:Int),()))) (
 opt.ret _ (Sum.inr ())))))) (fun t4=>
 opt.ret _ (Sum.inl (t4.1,()))) (fun u4=>
 opt.bnd (Unit) _ (some u4) fun v4=>
 opt.ret _ (Sum.inr ())))))))) (fun w4=>
 opt.ret _ (w4.1,())) (fun z4=>
 opt.bnd (Unit) _ (some z4) fun a5=>
 opt.ret _ ((0:Int),())))))
def G40:=g40 it0
theorem ok40:CtrOk PG v4x (G40 std):=okF (a:=an40) (l:=la40) (gC v61 (gC v62 (gC v1e (gN)))) (by kernel_rfl) fun _ _=>by kernel_rfl
end Go.Am
end
noncomputable section
namespace Go.Am
def v40:Ctr:=
 ⟨37,[.agg [.list 2, .list 1], .agg [.list 2, .list 1]],[],[(.ret,⟨[(0, .tuple [.agg [.int .i64, .int .i64, .int .i64], .int .i64])],[],1⟩)]⟩
def la37:List LA:=
 [⟨37,[false,true,false,true,true,true],0,⟨⟨[(4, .bptr 0 0),(5, .bptr 1 0),(6, .bptr 2 0),(7, .bptr 3 0),(46, .agg [.list 2, .list 2, .list 2, .list 2]),(47, .int .i64)],[.box [.int .i64, .int .i64, .int .i64], .box [.int .i64], .box [.list 2, .list 1, .list 2], .box [.bptr 4 0], .box [.list 2, .list 1, .list 2]],89⟩,[(AX.ret,⟨[(4, .bptr 0 0),(5, .bptr 1 0)],[.box [.int .i64, .int .i64, .int .i64], .box [.int .i64]],89⟩),((AX.exit 0),⟨[(4, .bptr 0 0),(5, .bptr 1 0),(6, .bptr 2 0),(7, .bptr 3 0)],[.box [.int .i64, .int .i64, .int .i64], .box [.int .i64], .box [.list 2, .list 1, .list 2], .box [.bptr 4 0], .box [.list 2, .list 1, .list 2]],89⟩)]⟩⟩,
 ⟨37,[false,true,true,false,false,true,true,false,false,true,false,true,true,true],0,⟨⟨[(4, .bptr 0 0),(5, .bptr 1 0),(6, .bptr 2 0),(7, .bptr 3 0),(10, .bptr 4 0),(46, .agg [.list 2, .list 2, .list 2, .list 2]),(47, .int .i64),(51, .list 2),(52, .int .i64),(53, .int .i64)],[.box [.int .i64, .int .i64, .int .i64], .box [.int .i64], .box [.list 2, .list 1, .list 2], .box [.bptr 5 0], .box [.list 2, .list 2], .box [.list 2, .list 1, .list 2]],89⟩,[(AX.ret,⟨[(4, .bptr 0 0),(5, .bptr 1 0)],[.box [.int .i64, .int .i64, .int .i64], .box [.int .i64]],89⟩),((AX.exit 2),⟨[(4, .bptr 0 0),(5, .bptr 1 0),(6, .bptr 2 0),(7, .bptr 3 0),(46, .agg [.list 2, .list 2, .list 2, .list 2]),(47, .int .i64)],[.box [.int .i64, .int .i64, .int .i64], .box [.int .i64], .box [.list 2, .list 1, .list 2], .box [.bptr 4 0], .box [.list 2, .list 1, .list 2]],89⟩)]⟩⟩,
 ⟨94,[false,true],7,⟨⟨[(0, .yld 6),(1, .bptr 5 0),(6, .list 2),(7, .int .i64),(8, .int .i64)],[.box [.int .i64, .int .i64, .int .i64], .box [.int .i64], .box [.list 2, .list 1, .list 2], .box [.bptr 4 0], .box [.list 2, .list 1, .list 2], .box [.list 2], .loop Go.LoopState.ready Option.none 37 [Bool.false,Bool.true,Bool.false,Bool.true,Bool.true,Bool.true,Bool.true] 89 [(72, .clo 94 [] [.bptr 5 0]),(7, .bptr 3 0),(4, .bptr 0 0),(5, .bptr 1 0)]],33⟩,[(AX.ret,⟨[],[.box [.int .i64, .int .i64, .int .i64], .box [.int .i64], .box [.list 2, .list 1, .list 2], .box [.bptr 4 0], .box [.list 2, .list 1, .list 2], .box [.list 2], .loop Go.LoopState.ready Option.none 37 [Bool.false,Bool.true,Bool.false,Bool.true,Bool.true,Bool.true,Bool.true] 89 [(72, .clo 94 [] [.bptr 5 0]),(7, .bptr 3 0),(4, .bptr 0 0),(5, .bptr 1 0)]],33⟩),(AX.ret,⟨[],[.box [.int .i64, .int .i64, .int .i64], .box [.int .i64], .box [.list 2, .list 1, .list 2], .box [.bptr 4 0], .box [.list 2, .list 1, .list 2], .box [.list 2], .loop Go.LoopState.done (Option.some Go.Code.ret) 37 [Bool.false,Bool.true,Bool.false,Bool.true,Bool.true,Bool.true,Bool.true] 89 [(72, .clo 94 [] [.bptr 5 0]),(7, .bptr 3 0),(4, .bptr 0 0),(5, .bptr 1 0)]],33⟩),((AX.exit 0),⟨[],[.box [.int .i64, .int .i64, .int .i64], .box [.int .i64], .box [.list 2, .list 1, .list 2], .box [.bptr 4 0], .box [.list 2, .list 1, .list 2], .box [.list 2], .loop Go.LoopState.ready Option.none 37 [Bool.false,Bool.true,Bool.false,Bool.true,Bool.true,Bool.true,Bool.true] 89 [(72, .clo 94 [] [.bptr 5 0]),(7, .bptr 3 0),(4, .bptr 0 0),(5, .bptr 1 0)]],33⟩)]⟩⟩,
 ⟨94,[false,true],22,⟨⟨[(0, .yld 21),(1, .bptr 20 0),(6, .list 2),(7, .int .i64),(8, .int .i64)],[.box [.int .i64, .int .i64, .int .i64], .box [.int .i64], .box [.list 2, .list 1, .list 2], .box [.bptr 4 0], .box [.list 2, .list 1, .list 2], .box [.list 2], .dead, .box [.int .i64, .int .i64], .dead, .dead, .dead, .dead, .dead, .dead, .dead, .dead, .dead, .dead, .box [.int .i64, .int .i64], .box [.int .i64, .int .i64, .int .i64, .int .i64], .box [.list 2], .loop Go.LoopState.ready Option.none 37 [Bool.false,Bool.true,Bool.false,Bool.true,Bool.false,Bool.true,Bool.false,Bool.true,Bool.true,Bool.true,Bool.true] 89 [(78, .clo 94 [] [.bptr 20 0]),(13, .bptr 19 0),(7, .bptr 3 0),(4, .bptr 0 0),(5, .bptr 1 0)]],33⟩,[(AX.ret,⟨[],[.box [.int .i64, .int .i64, .int .i64], .box [.int .i64], .box [.list 2, .list 1, .list 2], .box [.bptr 4 0], .box [.list 2, .list 1, .list 2], .box [.list 2], .dead, .box [.int .i64, .int .i64], .dead, .dead, .dead, .dead, .dead, .dead, .dead, .dead, .dead, .dead, .box [.int .i64, .int .i64], .box [.int .i64, .int .i64, .int .i64, .int .i64], .box [.list 2], .loop Go.LoopState.ready Option.none 37 [Bool.false,Bool.true,Bool.false,Bool.true,Bool.false,Bool.true,Bool.false,Bool.true,Bool.true,Bool.true,Bool.true] 89 [(78, .clo 94 [] [.bptr 20 0]),(13, .bptr 19 0),(7, .bptr 3 0),(4, .bptr 0 0),(5, .bptr 1 0)]],33⟩),(AX.ret,⟨[],[.box [.int .i64, .int .i64, .int .i64], .box [.int .i64], .box [.list 2, .list 1, .list 2], .box [.bptr 4 0], .box [.list 2, .list 1, .list 2], .box [.list 2], .dead, .box [.int .i64, .int .i64], .dead, .dead, .dead, .dead, .dead, .dead, .dead, .dead, .dead, .dead, .box [.int .i64, .int .i64], .box [.int .i64, .int .i64, .int .i64, .int .i64], .box [.list 2], .loop Go.LoopState.done (Option.some Go.Code.ret) 37 [Bool.false,Bool.true,Bool.false,Bool.true,Bool.false,Bool.true,Bool.false,Bool.true,Bool.true,Bool.true,Bool.true] 89 [(78, .clo 94 [] [.bptr 20 0]),(13, .bptr 19 0),(7, .bptr 3 0),(4, .bptr 0 0),(5, .bptr 1 0)]],33⟩),((AX.exit 0),⟨[],[.box [.int .i64, .int .i64, .int .i64], .box [.int .i64], .box [.list 2, .list 1, .list 2], .box [.bptr 4 0], .box [.list 2, .list 1, .list 2], .box [.list 2], .dead, .box [.int .i64, .int .i64], .dead, .dead, .dead, .dead, .dead, .dead, .dead, .dead, .dead, .dead, .box [.int .i64, .int .i64], .box [.int .i64, .int .i64, .int .i64, .int .i64], .box [.list 2], .loop Go.LoopState.ready Option.none 37 [Bool.false,Bool.true,Bool.false,Bool.true,Bool.false,Bool.true,Bool.false,Bool.true,Bool.true,Bool.true,Bool.true] 89 [(78, .clo 94 [] [.bptr 20 0]),(13, .bptr 19 0),(7, .bptr 3 0),(4, .bptr 0 0),(5, .bptr 1 0)]],33⟩)]⟩⟩]
def ja37:List JA:=
 [⟨37,[true,false,true,false,true,false,true,true,true,true],19,[(AX.normal,⟨[(4, .bptr 0 0),(5, .bptr 1 0),(7, .bptr 3 0)],[.box [.int .i64, .int .i64, .int .i64], .box [.int .i64], .box [.list 2, .list 1, .list 2], .box [.bptr 4 0], .box [.list 2, .list 1, .list 2], .box [.list 2], .dead, .box [.int .i64, .int .i64], .dead, .dead, .dead, .dead, .dead, .dead, .dead, .dead, .dead, .dead, .box [.int .i64, .int .i64]],89⟩),(AX.ret,⟨[(4, .bptr 0 0),(5, .bptr 1 0)],[.box [.int .i64, .int .i64, .int .i64], .box [.int .i64], .box [.list 2, .list 1, .list 2], .box [.bptr 4 0], .box [.list 2, .list 1, .list 2], .box [.list 2], .dead, .box [.int .i64, .int .i64], .dead, .dead, .dead, .dead, .dead, .dead, .dead, .dead, .dead, .dead, .box [.int .i64, .int .i64]],89⟩)]⟩,
 ⟨37,[false,false,false,true,true,false,false,true,false,true,true,true],0,[(AX.normal,⟨[(4, .bptr 0 0),(5, .bptr 1 0),(6, .bptr 2 0),(7, .bptr 3 0),(10, .bptr 4 0),(46, .agg [.list 2, .list 2, .list 2, .list 2]),(47, .int .i64)],[.box [.int .i64, .int .i64, .int .i64], .box [.int .i64], .box [.list 2, .list 1, .list 2], .box [.bptr 5 0], .box [.list 2, .list 2], .box [.list 2, .list 1, .list 2]],89⟩)]⟩,
 ⟨37,[true,false,true,true,true,true],0,[(AX.normal,⟨[(4, .bptr 0 0),(5, .bptr 1 0)],[.box [.int .i64, .int .i64, .int .i64], .box [.int .i64]],89⟩),(AX.ret,⟨[(4, .bptr 0 0),(5, .bptr 1 0)],[.box [.int .i64, .int .i64, .int .i64], .box [.int .i64]],89⟩)]⟩]
def v90:List CF:=
 [⟨v4n,G76⟩,⟨w04,G57⟩,⟨x7y,G62⟩]
def an37:Anns:=
 ⟨v90,ja37,[]⟩
def w9v (it:It) (p:Prim):(Int×(Int×(Int×(Int×(LD×(LD×(LD×(LD×(LD×(LD×(LD×(Int×(Int×(Int×(Int×(Int×(Int×(Int×(Int×(LD×(LD×(Int×(Int×Unit)))))))))))))))))))))))→Option ((Int×(Int×(Int×(Int×(LD×(LD×(LD×(LD×(LD×(LD×(LD×(Int×(Int×(Int×(Int×(Int×(Int×(Int×(Int×(LD×(LD×(Int×(Int×Unit)))))))))))))))))))))))⊕((Int×(Int×(Int×(Int×(LD×(LD×(LD×(LD×(LD×(LD×(LD×(Int×(Int×(Int×(Int×(Int×(Int×(Int×(Int×(LD×Unit))))))))))))))))))))⊕((Int×(Int×(Int×(Int×(LD×(LD×(LD×(LD×(LD×(LD×(LD×(Int×(Int×(Int×(Int×(Int×(Int×(Int×(Int×(LD×Unit))))))))))))))))))))⊕(Int×(Int×(Int×(Int×(LD×(LD×(LD×(LD×(LD×(LD×(LD×(Int×(Int×(Int×(Int×(Int×(Int×(Int×(Int×(LD×Unit))))))))))))))))))))))):=
 fun a=>opt.run _ (
 opt.ask _ (p.cmp .lss a.2.2.2.2.2.2.2.2.2.2.2.2.2.2.2.2.2.2.2.2.2.2.1 a.2.2.2.2.2.2.2.2.2.2.2.2.2.2.2.2.2.2.2.2.2.1) (
 opt.need _ (p.rowOk a.2.2.2.2.2.2.2.2.2.2.2.2.2.2.2.2.2.2.2.2.1 (p.nat a.2.2.2.2.2.2.2.2.2.2.2.2.2.2.2.2.2.2.2.2.2.2.1) [ci,ci])<|
 opt.need _ (p.cmp .geq a.2.2.2.2.2.2.2.2.2.2.2.2.2.2.2.2.2.2.2.2.2.2.1 (0:Int))<|
 opt.need _ (p.cmp .neq (p.ofNat (p.len a.2.2.2.2.2.2.2.2.2.2.2.2.2.2.2.2.2.2.2.1)) (0:Int))<|
 opt.need _ (p.rowOk a.2.2.2.2.2.2.2.2.2.2.2.2.2.2.2.2.2.2.2.1 (p.nat (p.ar .rem .i64 (p.ar .add .i64 a.2.2.2.2.2.2.2.2.2.2.2.2.2.2.2.2.2.2.2.2.2.2.1 (1:Int)) (p.ofNat (p.len a.2.2.2.2.2.2.2.2.2.2.2.2.2.2.2.2.2.2.2.1)))) [ci,ci])<|
 opt.need _ (p.cmp .geq (p.ar .rem .i64 (p.ar .add .i64 a.2.2.2.2.2.2.2.2.2.2.2.2.2.2.2.2.2.2.2.2.2.2.1 (1:Int)) (p.ofNat (p.len a.2.2.2.2.2.2.2.2.2.2.2.2.2.2.2.2.2.2.2.1))) (0:Int))<|
 opt.ask _ (bif (p.cmp .eql (p.ar .sub .i64 (p.rdI a.2.2.2.2.2.2.2.2.2.2.2.2.2.2.2.2.2.2.2.1 (p.nat (p.ar .rem .i64 (p.ar .add .i64 a.2.2.2.2.2.2.2.2.2.2.2.2.2.2.2.2.2.2.2.2.2.2.1 (1:Int)) (p.ofNat (p.len a.2.2.2.2.2.2.2.2.2.2.2.2.2.2.2.2.2.2.2.1)))) 0) (p.rdI a.2.2.2.2.2.2.2.2.2.2.2.2.2.2.2.2.2.2.2.2.1 (p.nat a.2.2.2.2.2.2.2.2.2.2.2.2.2.2.2.2.2.2.2.2.2.2.1) 0)) (0:Int)) then (bif (p.cmp .eql (p.ar .sub .i64 (p.rdI a.2.2.2.2.2.2.2.2.2.2.2.2.2.2.2.2.2.2.2.1 (p.nat (p.ar .rem .i64 (p.ar .add .i64 a.2.2.2.2.2.2.2.2.2.2.2.2.2.2.2.2.2.2.2.2.2.2.1 (1:Int)) (p.ofNat (p.len a.2.2.2.2.2.2.2.2.2.2.2.2.2.2.2.2.2.2.2.1)))) 1) (p.rdI a.2.2.2.2.2.2.2.2.2.2.2.2.2.2.2.2.2.2.2.2.1 (p.nat a.2.2.2.2.2.2.2.2.2.2.2.2.2.2.2.2.2.2.2.2.2.2.1) 1)) (0:Int)) then Bool.true else Bool.false) else Bool.false) (
 opt.ret _ (Sum.inr (Sum.inl (a.1,(a.2.1,(a.2.2.1,(a.2.2.2.1,(a.2.2.2.2.1,(a.2.2.2.2.2.1,(a.2.2.2.2.2.2.1,(a.2.2.2.2.2.2.2.1,(a.2.2.2.2.2.2.2.2.1,(a.2.2.2.2.2.2.2.2.2.1,(a.2.2.2.2.2.2.2.2.2.2.1,(a.2.2.2.2.2.2.2.2.2.2.2.1,(a.2.2.2.2.2.2.2.2.2.2.2.2.1,(a.2.2.2.2.2.2.2.2.2.2.2.2.2.1,(a.2.2.2.2.2.2.2.2.2.2.2.2.2.2.1,(a.2.2.2.2.2.2.2.2.2.2.2.2.2.2.2.1,(a.2.2.2.2.2.2.2.2.2.2.2.2.2.2.2.2.1,(a.2.2.2.2.2.2.2.2.2.2.2.2.2.2.2.2.2.1,(a.2.2.2.2.2.2.2.2.2.2.2.2.2.2.2.2.2.2.1,(a.2.2.2.2.2.2.2.2.2.2.2.2.2.2.2.2.2.2.2.1,()))))))))))))))))))))))) (
 opt.bnd T27 _ (g76 it p (a.2.2.2.2.2.2.2.2.2.2.2.2.2.2.2.1,(a.2.2.2.2.2.2.2.2.2.2.2.2.2.2.2.2.1,(a.2.2.2.2.2.2.2.2.2.2.2.2.2.2.2.2.2.1,(a.2.2.2.2.2.2.2.2.2.2.2.2.2.2.2.2.2.2.1,((p.rdI a.2.2.2.2.2.2.2.2.2.2.2.2.2.2.2.2.2.2.2.2.1 (p.nat a.2.2.2.2.2.2.2.2.2.2.2.2.2.2.2.2.2.2.2.2.2.2.1) 0),((p.rdI a.2.2.2.2.2.2.2.2.2.2.2.2.2.2.2.2.2.2.2.2.1 (p.nat a.2.2.2.2.2.2.2.2.2.2.2.2.2.2.2.2.2.2.2.2.2.2.1) 1),((p.ar .sub .i64 (p.rdI a.2.2.2.2.2.2.2.2.2.2.2.2.2.2.2.2.2.2.2.1 (p.nat (p.ar .rem .i64 (p.ar .add .i64 a.2.2.2.2.2.2.2.2.2.2.2.2.2.2.2.2.2.2.2.2.2.2.1 (1:Int)) (p.ofNat (p.len a.2.2.2.2.2.2.2.2.2.2.2.2.2.2.2.2.2.2.2.1)))) 0) (p.rdI a.2.2.2.2.2.2.2.2.2.2.2.2.2.2.2.2.2.2.2.2.1 (p.nat a.2.2.2.2.2.2.2.2.2.2.2.2.2.2.2.2.2.2.2.2.2.2.1) 0)),((p.ar .sub .i64 (p.rdI a.2.2.2.2.2.2.2.2.2.2.2.2.2.2.2.2.2.2.2.1 (p.nat (p.ar .rem .i64 (p.ar .add .i64 a.2.2.2.2.2.2.2.2.2.2.2.2.2.2.2.2.2.2.2.2.2.2.1 (1:Int)) (p.ofNat (p.len a.2.2.2.2.2.2.2.2.2.2.2.2.2.2.2.2.2.2.2.1)))) 1) (p.rdI a.2.2.2.2.2.2.2.2.2.2.2.2.2.2.2.2.2.2.2.2.1 (p.nat a.2.2.2.2.2.2.2.2.2.2.2.2.2.2.2.2.2.2.2.2.2.2.1) 1)),()))))))))) fun b=>
 opt.ask _ b.2.2.2.1 (
 opt.ret _ (Sum.inr (Sum.inr (Sum.inl (b.1,(b.2.1,(b.2.2.1,((0:Int),(a.2.2.2.2.1,(a.2.2.2.2.2.1,(a.2.2.2.2.2.2.1,(a.2.2.2.2.2.2.2.1,(a.2.2.2.2.2.2.2.2.1,(a.2.2.2.2.2.2.2.2.2.1,(a.2.2.2.2.2.2.2.2.2.2.1,(a.2.2.2.2.2.2.2.2.2.2.2.1,(a.2.2.2.2.2.2.2.2.2.2.2.2.1,(a.2.2.2.2.2.2.2.2.2.2.2.2.2.1,(a.2.2.2.2.2.2.2.2.2.2.2.2.2.2.1,(a.2.2.2.2.2.2.2.2.2.2.2.2.2.2.2.1,(a.2.2.2.2.2.2.2.2.2.2.2.2.2.2.2.2.1,(a.2.2.2.2.2.2.2.2.2.2.2.2.2.2.2.2.2.1,(a.2.2.2.2.2.2.2.2.2.2.2.2.2.2.2.2.2.2.1,(a.2.2.2.2.2.2.2.2.2.2.2.2.2.2.2.2.2.2.2.1,())))))))))))))))))))))))) (
 opt.ret _ (Sum.inl (a.1,(a.2.1,(a.2.2.1,(a.2.2.2.1,(a.2.2.2.2.1,(a.2.2.2.2.2.1,(a.2.2.2.2.2.2.1,(a.2.2.2.2.2.2.2.1,(a.2.2.2.2.2.2.2.2.1,(a.2.2.2.2.2.2.2.2.2.1,(a.2.2.2.2.2.2.2.2.2.2.1,(a.2.2.2.2.2.2.2.2.2.2.2.1,(a.2.2.2.2.2.2.2.2.2.2.2.2.1,(a.2.2.2.2.2.2.2.2.2.2.2.2.2.1,(a.2.2.2.2.2.2.2.2.2.2.2.2.2.2.1,(a.2.2.2.2.2.2.2.2.2.2.2.2.2.2.2.1,(a.2.2.2.2.2.2.2.2.2.2.2.2.2.2.2.2.1,(a.2.2.2.2.2.2.2.2.2.2.2.2.2.2.2.2.2.1,(a.2.2.2.2.2.2.2.2.2.2.2.2.2.2.2.2.2.2.1,(a.2.2.2.2.2.2.2.2.2.2.2.2.2.2.2.2.2.2.2.1,(a.2.2.2.2.2.2.2.2.2.2.2.2.2.2.2.2.2.2.2.2.1,(a.2.2.2.2.2.2.2.2.2.2.2.2.2.2.2.2.2.2.2.2.2.1,((p.ar .add .i64 a.2.2.2.2.2.2.2.2.2.2.2.2.2.2.2.2.2.2.2.2.2.2.1 (1:Int)),()))))))))))))))))))))))))))) (
 opt.ret _ (Sum.inr (Sum.inr (Sum.inr (a.1,(a.2.1,(a.2.2.1,(a.2.2.2.1,(a.2.2.2.2.1,(a.2.2.2.2.2.1,(a.2.2.2.2.2.2.1,(a.2.2.2.2.2.2.2.1,(a.2.2.2.2.2.2.2.2.1,(a.2.2.2.2.2.2.2.2.2.1,(a.2.2.2.2.2.2.2.2.2.2.1,(a.2.2.2.2.2.2.2.2.2.2.2.1,(a.2.2.2.2.2.2.2.2.2.2.2.2.1,(a.2.2.2.2.2.2.2.2.2.2.2.2.2.1,(a.2.2.2.2.2.2.2.2.2.2.2.2.2.2.1,(a.2.2.2.2.2.2.2.2.2.2.2.2.2.2.2.1,(a.2.2.2.2.2.2.2.2.2.2.2.2.2.2.2.2.1,(a.2.2.2.2.2.2.2.2.2.2.2.2.2.2.2.2.2.1,(a.2.2.2.2.2.2.2.2.2.2.2.2.2.2.2.2.2.2.1,(a.2.2.2.2.2.2.2.2.2.2.2.2.2.2.2.2.2.2.2.1,())))))))))))))))))))))))))
def w9w (it:It) (p:Prim):(Int×(Int×(Int×(Int×(LD×(LD×(LD×(LD×(LD×(LD×(LD×(LD×(Int×(Int×Unit))))))))))))))→Option ((Int×(Int×(Int×(Int×(LD×(LD×(LD×(LD×(LD×(LD×(LD×(LD×(Int×(Int×Unit))))))))))))))⊕((Int×(Int×(Int×(Int×(LD×(LD×(LD×(LD×(LD×(LD×(LD×Unit)))))))))))⊕((Int×(Int×(Int×(Int×(LD×(LD×(LD×(LD×(LD×(LD×(LD×Unit)))))))))))⊕(Int×(Int×(Int×(Int×(LD×(LD×(LD×(LD×(LD×(LD×(LD×Unit)))))))))))))):=
 fun a=>opt.run _ (
 opt.ask _ (p.cmp .lss a.2.2.2.2.2.2.2.2.2.2.2.2.2.1 a.2.2.2.2.2.2.2.2.2.2.2.2.1) (
 opt.need _ (p.rowOk a.2.2.2.2.2.2.2.2.2.2.2.1 (p.nat a.2.2.2.2.2.2.2.2.2.2.2.2.2.1) [ci,ci])<|
 opt.need _ (p.cmp .geq a.2.2.2.2.2.2.2.2.2.2.2.2.2.1 (0:Int))<|
 opt.need _ (p.cmp .neq (p.ofNat (p.len a.2.2.2.2.2.2.2.2.2.2.1)) (0:Int))<|
 opt.need _ (p.rowOk a.2.2.2.2.2.2.2.2.2.2.1 (p.nat (p.ar .rem .i64 (p.ar .add .i64 a.2.2.2.2.2.2.2.2.2.2.2.2.2.1 (1:Int)) (p.ofNat (p.len a.2.2.2.2.2.2.2.2.2.2.1)))) [ci,ci])<|
 opt.need _ (p.cmp .geq (p.ar .rem .i64 (p.ar .add .i64 a.2.2.2.2.2.2.2.2.2.2.2.2.2.1 (1:Int)) (p.ofNat (p.len a.2.2.2.2.2.2.2.2.2.2.1))) (0:Int))<|
 opt.ask _ (bif (p.cmp .eql (p.ar .sub .i64 (p.rdI a.2.2.2.2.2.2.2.2.2.2.1 (p.nat (p.ar .rem .i64 (p.ar .add .i64 a.2.2.2.2.2.2.2.2.2.2.2.2.2.1 (1:Int)) (p.ofNat (p.len a.2.2.2.2.2.2.2.2.2.2.1)))) 0) (p.rdI a.2.2.2.2.2.2.2.2.2.2.2.1 (p.nat a.2.2.2.2.2.2.2.2.2.2.2.2.2.1) 0)) (0:Int)) then (bif (p.cmp .eql (p.ar .sub .i64 (p.rdI a.2.2.2.2.2.2.2.2.2.2.1 (p.nat (p.ar .rem .i64 (p.ar .add .i64 a.2.2.2.2.2.2.2.2.2.2.2.2.2.1 (1:Int)) (p.ofNat (p.len a.2.2.2.2.2.2.2.2.2.2.1)))) 1) (p.rdI a.2.2.2.2.2.2.2.2.2.2.2.1 (p.nat a.2.2.2.2.2.2.2.2.2.2.2.2.2.1) 1)) (0:Int)) then Bool.true else Bool.false) else Bool.false) (
 opt.ret _ (Sum.inr (Sum.inl (a.1,(a.2.1,(a.2.2.1,(a.2.2.2.1,(a.2.2.2.2.1,(a.2.2.2.2.2.1,(a.2.2.2.2.2.2.1,(a.2.2.2.2.2.2.2.1,(a.2.2.2.2.2.2.2.2.1,(a.2.2.2.2.2.2.2.2.2.1,(a.2.2.2.2.2.2.2.2.2.2.1,())))))))))))))) (
 opt.alt T62 T62 _ (
 opt.run (((Int×(Int×(Int×(Int×(LD×(LD×(LD×(LD×(LD×(LD×(LD×(Int×(Int×(Int×(Int×Unit)))))))))))))))⊕(Int×(Int×(Int×(Int×(LD×(LD×(LD×(LD×(LD×(LD×(LD×(Int×(Int×(Int×(Int×Unit))))))))))))))))) (
 opt.alt T50 (((Int×(Int×(Int×(Int×(LD×(LD×(LD×(LD×(LD×(LD×(LD×(Int×(Int×(Int×(Int×(Int×(Int×(Int×(Int×(LD×Unit))))))))))))))))))))⊕(Int×(Int×(Int×(Int×(LD×(LD×(LD×(LD×(LD×(LD×(LD×(Int×(Int×(Int×(Int×(Int×(Int×(Int×(Int×(LD×Unit)))))))))))))))))))))) _ (
 it _ _ (w9v it p) (a.1,(a.2.1,(a.2.2.1,(a.2.2.2.1,(a.2.2.2.2.1,(a.2.2.2.2.2.1,(a.2.2.2.2.2.2.1,(a.2.2.2.2.2.2.2.1,(a.2.2.2.2.2.2.2.2.1,(a.2.2.2.2.2.2.2.2.2.1,(a.2.2.2.2.2.2.2.2.2.2.1,((p.rdI a.2.2.2.2.2.2.2.2.2.2.2.1 (p.nat a.2.2.2.2.2.2.2.2.2.2.2.2.2.1) 0),((p.rdI a.2.2.2.2.2.2.2.2.2.2.2.1 (p.nat a.2.2.2.2.2.2.2.2.2.2.2.2.2.1) 1),((p.ar .sub .i64 (p.rdI a.2.2.2.2.2.2.2.2.2.2.1 (p.nat (p.ar .rem .i64 (p.ar .add .i64 a.2.2.2.2.2.2.2.2.2.2.2.2.2.1 (1:Int)) (p.ofNat (p.len a.2.2.2.2.2.2.2.2.2.2.1)))) 0) (p.rdI a.2.2.2.2.2.2.2.2.2.2.2.1 (p.nat a.2.2.2.2.2.2.2.2.2.2.2.2.2.1) 0)),((p.ar .sub .i64 (p.rdI a.2.2.2.2.2.2.2.2.2.2.1 (p.nat (p.ar .rem .i64 (p.ar .add .i64 a.2.2.2.2.2.2.2.2.2.2.2.2.2.1 (1:Int)) (p.ofNat (p.len a.2.2.2.2.2.2.2.2.2.2.1)))) 1) (p.rdI a.2.2.2.2.2.2.2.2.2.2.2.1 (p.nat a.2.2.2.2.2.2.2.2.2.2.2.2.2.1) 1)),((p.rdI a.2.2.2.2.2.2.2.2.2.2.2.1 (p.nat a.2.2.2.2.2.2.2.2.2.2.2.2.2.1) 0),((p.rdI a.2.2.2.2.2.2.2.2.2.2.2.1 (p.nat a.2.2.2.2.2.2.2.2.2.2.2.2.2.1) 1),((p.ar .sub .i64 (p.rdI a.2.2.2.2.2.2.2.2.2.2.1 (p.nat (p.ar .rem .i64 (p.ar .add .i64 a.2.2.2.2.2.2.2.2.2.2.2.2.2.1 (1:Int)) (p.ofNat (p.len a.2.2.2.2.2.2.2.2.2.2.1)))) 0) (p.rdI a.2.2.2.2.2.2.2.2.2.2.2.1 (p.nat a.2.2.2.2.2.2.2.2.2.2.2.2.2.1) 0)),((p.ar .sub .i64 (p.rdI a.2.2.2.2.2.2.2.2.2.2.1 (p.nat (p.ar .rem .i64 (p.ar .add .i64 a.2.2.2.2.2.2.2.2.2.2.2.2.2.1 (1:Int)) (p.ofNat (p.len a.2.2.2.2.2.2.2.2.2.2.1)))) 1) (p.rdI a.2.2.2.2.2.2.2.2.2.2.2.1 (p.nat a.2.2.2.2.2.2.2.2.2.2.2.2.2.1) 1)),(a.2.2.2.2.2.2.2.2.2.1,(a.2.2.2.2.2.2.2.2.2.1,((p.ofNat (p.len a.2.2.2.2.2.2.2.2.2.1)),((0:Int),())))))))))))))))))))))))) (fun b=>
 opt.ret _ (Sum.inl (b.1,(b.2.1,(b.2.2.1,(b.2.2.2.1,(b.2.2.2.2.1,(b.2.2.2.2.2.1,(b.2.2.2.2.2.2.1,(b.2.2.2.2.2.2.2.1,(b.2.2.2.2.2.2.2.2.1,(b.2.2.2.2.2.2.2.2.2.1,(b.2.2.2.2.2.2.2.2.2.2.1,(b.2.2.2.2.2.2.2.2.2.2.2.1,(b.2.2.2.2.2.2.2.2.2.2.2.2.1,(b.2.2.2.2.2.2.2.2.2.2.2.2.2.1,(b.2.2.2.2.2.2.2.2.2.2.2.2.2.2.1,()))))))))))))))))) (fun c=>
 opt.alt T50 T50 _ (some c) (fun d=>
 opt.ret _ (Sum.inr (d.1,(d.2.1,(d.2.2.1,(d.2.2.2.1,(d.2.2.2.2.1,(d.2.2.2.2.2.1,(d.2.2.2.2.2.2.1,(d.2.2.2.2.2.2.2.1,(d.2.2.2.2.2.2.2.2.1,(d.2.2.2.2.2.2.2.2.2.1,(d.2.2.2.2.2.2.2.2.2.2.1,(d.2.2.2.2.2.2.2.2.2.2.2.1,(d.2.2.2.2.2.2.2.2.2.2.2.2.1,(d.2.2.2.2.2.2.2.2.2.2.2.2.2.1,(d.2.2.2.2.2.2.2.2.2.2.2.2.2.2.1,()))))))))))))))))) (fun e=>
 opt.bnd T50 _ (some e) fun f=>
 opt.ret _ (Sum.inl (f.1,(f.2.1,(f.2.2.1,(f.2.2.2.1,(f.2.2.2.2.1,(f.2.2.2.2.2.1,(f.2.2.2.2.2.2.1,(f.2.2.2.2.2.2.2.1,(f.2.2.2.2.2.2.2.2.1,(f.2.2.2.2.2.2.2.2.2.1,(f.2.2.2.2.2.2.2.2.2.2.1,(f.2.2.2.2.2.2.2.2.2.2.2.1,(f.2.2.2.2.2.2.2.2.2.2.2.2.1,(f.2.2.2.2.2.2.2.2.2.2.2.2.2.1,(f.2.2.2.2.2.2.2.2.2.2.2.2.2.2.1,())))))))))))))))))))) (fun g=>
 opt.ret _ (Sum.inl (g.1,(g.2.1,(g.2.2.1,(g.2.2.2.1,(g.2.2.2.2.1,(g.2.2.2.2.2.1,(g.2.2.2.2.2.2.1,(g.2.2.2.2.2.2.2.1,(g.2.2.2.2.2.2.2.2.1,(g.2.2.2.2.2.2.2.2.2.1,(g.2.2.2.2.2.2.2.2.2.2.1,(a.2.2.2.2.2.2.2.2.2.2.2.1,(a.2.2.2.2.2.2.2.2.2.2.2.2.1,((p.ar .add .i64 a.2.2.2.2.2.2.2.2.2.2.2.2.2.1 (1:Int)),())))))))))))))))) (fun h=>
 opt.bnd T62 _ (some h) fun i=>
 opt.ret _ (Sum.inr (Sum.inr (Sum.inl (i.1,(i.2.1,(i.2.2.1,(i.2.2.2.1,(i.2.2.2.2.1,(i.2.2.2.2.2.1,(i.2.2.2.2.2.2.1,(i.2.2.2.2.2.2.2.1,(i.2.2.2.2.2.2.2.2.1,(i.2.2.2.2.2.2.2.2.2.1,(i.2.2.2.2.2.2.2.2.2.2.1,()))))))))))))))))) (
 opt.ret _ (Sum.inr (Sum.inr (Sum.inr (a.1,(a.2.1,(a.2.2.1,(a.2.2.2.1,(a.2.2.2.2.1,(a.2.2.2.2.2.1,(a.2.2.2.2.2.2.1,(a.2.2.2.2.2.2.2.1,(a.2.2.2.2.2.2.2.2.1,(a.2.2.2.2.2.2.2.2.2.1,(a.2.2.2.2.2.2.2.2.2.2.1,()))))))))))))))))
def w9x (it:It) (p:Prim):(Int×(Int×(Int×(Int×(LD×(LD×(LD×(LD×(LD×(LD×(LD×(LD×(LD×(LD×(LD×(LD×(Int×(LD×(Int×(Int×Unit))))))))))))))))))))→Option ((Int×(Int×(Int×(Int×(LD×(LD×(LD×(LD×(LD×(LD×(LD×(LD×(LD×(LD×(LD×(LD×(Int×(LD×(Int×(Int×Unit))))))))))))))))))))⊕((Int×(Int×(Int×(Int×Unit))))⊕(Int×(Int×(Int×(Int×(LD×(LD×(LD×(LD×(LD×(LD×(LD×(LD×(LD×(LD×(Int×Unit))))))))))))))))):=
 fun a=>opt.run _ (
 opt.ask _ (p.cmp .lss a.2.2.2.2.2.2.2.2.2.2.2.2.2.2.2.2.2.2.2.1 a.2.2.2.2.2.2.2.2.2.2.2.2.2.2.2.2.2.2.1) (
 opt.need _ (p.rowOk a.2.2.2.2.2.2.2.2.2.2.2.2.2.2.2.2.2.1 (p.nat a.2.2.2.2.2.2.2.2.2.2.2.2.2.2.2.2.2.2.2.1) [ci,ci])<|
 opt.need _ (p.cmp .geq a.2.2.2.2.2.2.2.2.2.2.2.2.2.2.2.2.2.2.2.1 (0:Int))<|
 opt.bnd T1 _ (g57 it p (a.2.2.2.2.2.2.2.2.1,((p.rdI a.2.2.2.2.2.2.2.2.2.2.2.2.2.2.2.2.2.1 (p.nat a.2.2.2.2.2.2.2.2.2.2.2.2.2.2.2.2.2.2.2.1) 0),((p.rdI a.2.2.2.2.2.2.2.2.2.2.2.2.2.2.2.2.2.1 (p.nat a.2.2.2.2.2.2.2.2.2.2.2.2.2.2.2.2.2.2.2.1) 1),((1:Int),()))))) fun b=>
 opt.ask _ b.1 (
 opt.ret _ (Sum.inr (Sum.inl ((p.rdI a.2.2.2.2.2.2.2.2.2.2.2.2.2.2.2.2.2.1 (p.nat a.2.2.2.2.2.2.2.2.2.2.2.2.2.2.2.2.2.2.2.1) 0),((p.rdI a.2.2.2.2.2.2.2.2.2.2.2.2.2.2.2.2.2.1 (p.nat a.2.2.2.2.2.2.2.2.2.2.2.2.2.2.2.2.2.2.2.1) 1),((1:Int),((0:Int),()))))))) (
 opt.ret _ (Sum.inl (a.1,(a.2.1,(a.2.2.1,(a.2.2.2.1,(a.2.2.2.2.1,(a.2.2.2.2.2.1,(a.2.2.2.2.2.2.1,(a.2.2.2.2.2.2.2.1,(a.2.2.2.2.2.2.2.2.1,(a.2.2.2.2.2.2.2.2.2.1,(a.2.2.2.2.2.2.2.2.2.2.1,(a.2.2.2.2.2.2.2.2.2.2.2.1,(a.2.2.2.2.2.2.2.2.2.2.2.2.1,(a.2.2.2.2.2.2.2.2.2.2.2.2.2.1,(a.2.2.2.2.2.2.2.2.2.2.2.2.2.2.1,(a.2.2.2.2.2.2.2.2.2.2.2.2.2.2.2.1,(a.2.2.2.2.2.2.2.2.2.2.2.2.2.2.2.2.1,(a.2.2.2.2.2.2.2.2.2.2.2.2.2.2.2.2.2.1,(a.2.2.2.2.2.2.2.2.2.2.2.2.2.2.2.2.2.2.1,((p.ar .add .i64 a.2.2.2.2.2.2.2.2.2.2.2.2.2.2.2.2.2.2.2.1 (1:Int)),()))))))))))))))))))))))) (
 opt.ret _ (Sum.inr (Sum.inr (a.1,(a.2.1,(a.2.2.1,(a.2.2.2.1,(a.2.2.2.2.1,(a.2.2.2.2.2.1,(a.2.2.2.2.2.2.1,(a.2.2.2.2.2.2.2.2.2.1,(a.2.2.2.2.2.2.2.2.2.2.1,(a.2.2.2.2.2.2.2.2.2.2.2.1,(a.2.2.2.2.2.2.2.2.2.2.2.2.1,(a.2.2.2.2.2.2.2.2.2.2.2.2.2.1,(a.2.2.2.2.2.2.2.2.2.2.2.2.2.2.1,(a.2.2.2.2.2.2.2.2.2.2.2.2.2.2.2.1,(a.2.2.2.2.2.2.2.2.2.2.2.2.2.2.2.2.1,())))))))))))))))))))
def w9y (it:It) (p:Prim):(Int×(Int×(Int×(Int×(LD×(LD×(LD×(LD×(LD×(LD×(LD×(LD×(LD×(LD×(Int×Unit)))))))))))))))→Option ((Int×(Int×(Int×(Int×(LD×(LD×(LD×(LD×(LD×(LD×(LD×(LD×(LD×(LD×(Int×Unit)))))))))))))))⊕((Int×(Int×(Int×(Int×Unit))))⊕(Int×(Int×(Int×(Int×(LD×(LD×(LD×(LD×(LD×(LD×Unit)))))))))))):=
 fun a=>opt.run _ (
 opt.ask _ (p.cmp .lss a.2.2.2.2.2.2.2.2.2.2.2.2.2.2.1 (2:Int)) (
 opt.bnd T87 _ (
 opt.run T87 (
 opt.ask _ (p.cmp .eql a.2.2.2.2.2.2.2.2.2.2.2.2.2.2.1 (0:Int)) (
 opt.need _ (bif (p.cmp .geq (0:Int) (0:Int)) then (p.cmp .lss (0:Int) (p.ofNat 2)) else Bool.false)<|
 opt.ret _ (a.1,(a.2.1,(a.2.2.1,(a.2.2.2.1,(a.2.2.2.2.1,(a.2.2.2.2.2.1,(a.2.2.2.2.2.2.1,(a.2.2.2.2.2.2.2.2.2.2.1,(a.2.2.2.2.2.2.2.2.2.2.2.1,(a.2.2.2.2.2.2.2.1,(a.2.2.2.2.2.2.2.2.1,(a.2.2.2.2.2.2.2.2.2.1,(a.2.2.2.2.2.2.2.2.2.2.1,(a.2.2.2.2.2.2.2.2.2.2.2.1,(a.2.2.2.2.2.2.2.2.2.2.2.2.1,(a.2.2.2.2.2.2.2.2.2.2.2.2.2.1,((0:Int),())))))))))))))))))) (
 opt.need _ (p.cmp .eql a.2.2.2.2.2.2.2.2.2.2.2.2.2.2.1 (1:Int))<|
 opt.need _ (bif (p.cmp .geq (1:Int) (0:Int)) then (p.cmp .lss (1:Int) (p.ofNat 2)) else Bool.false)<|
 opt.ret _ (a.1,(a.2.1,(a.2.2.1,(a.2.2.2.1,(a.2.2.2.2.1,(a.2.2.2.2.2.1,(a.2.2.2.2.2.2.1,(a.2.2.2.2.2.2.2.2.2.2.2.2.1,(a.2.2.2.2.2.2.2.2.2.2.2.2.2.1,(a.2.2.2.2.2.2.2.1,(a.2.2.2.2.2.2.2.2.1,(a.2.2.2.2.2.2.2.2.2.1,(a.2.2.2.2.2.2.2.2.2.2.1,(a.2.2.2.2.2.2.2.2.2.2.2.1,(a.2.2.2.2.2.2.2.2.2.2.2.2.1,(a.2.2.2.2.2.2.2.2.2.2.2.2.2.1,((1:Int),())))))))))))))))))))) fun b=>
 opt.alt T8 T88 _ (
 it _ _ (w9x it p) (b.1,(b.2.1,(b.2.2.1,(b.2.2.2.1,(b.2.2.2.2.1,(b.2.2.2.2.2.1,(b.2.2.2.2.2.2.1,(b.2.2.2.2.2.2.2.1,(b.2.2.2.2.2.2.2.2.1,(b.2.2.2.2.2.2.2.2.2.1,(b.2.2.2.2.2.2.2.2.2.2.1,(b.2.2.2.2.2.2.2.2.2.2.2.1,(b.2.2.2.2.2.2.2.2.2.2.2.2.1,(b.2.2.2.2.2.2.2.2.2.2.2.2.2.1,(b.2.2.2.2.2.2.2.2.2.2.2.2.2.2.1,(b.2.2.2.2.2.2.2.2.2.2.2.2.2.2.2.1,(b.2.2.2.2.2.2.2.2.2.2.2.2.2.2.2.2.1,(b.2.2.2.2.2.2.2.1,((p.ofNat (p.len b.2.2.2.2.2.2.2.1)),((0:Int),()))))))))))))))))))))) (fun c=>
 opt.ret _ (Sum.inr (Sum.inl (c.1,(c.2.1,(c.2.2.1,(c.2.2.2.1,()))))))) (fun d=>
 opt.bnd T88 _ (some d) fun e=>
 opt.ret _ (Sum.inl (e.1,(e.2.1,(e.2.2.1,(e.2.2.2.1,(e.2.2.2.2.1,(e.2.2.2.2.2.1,(e.2.2.2.2.2.2.1,(e.2.2.2.2.2.2.2.1,(e.2.2.2.2.2.2.2.2.1,(e.2.2.2.2.2.2.2.2.2.1,(e.2.2.2.2.2.2.2.2.2.2.1,(e.2.2.2.2.2.2.2.2.2.2.2.1,(e.2.2.2.2.2.2.2.2.2.2.2.2.1,(e.2.2.2.2.2.2.2.2.2.2.2.2.2.1,((p.ar .add .i64 e.2.2.2.2.2.2.2.2.2.2.2.2.2.2.1 (1:Int)),())))))))))))))))))) (
 opt.ret _ (Sum.inr (Sum.inr (a.1,(a.2.1,(a.2.2.1,(a.2.2.2.1,(a.2.2.2.2.1,(a.2.2.2.2.2.1,(a.2.2.2.2.2.2.1,(a.2.2.2.2.2.2.2.1,(a.2.2.2.2.2.2.2.2.1,(a.2.2.2.2.2.2.2.2.2.1,()))))))))))))))
def g37 (it:It):(p:Prim)→(LD×(LD×(LD×(LD×Unit))))→Option T8:=
 fun p x=>
 opt.alt T0 (((LD×(LD×(LD×T2)))⊕((LD×(LD×(LD×T2)))⊕(LD×(LD×(LD×(LD×(LD×(LD×T2))))))))) _ (g62 it p (x.1,(x.2.1,(x.2.2.1,(x.2.2.2.1,()))))) (fun a=>
 opt.ask _ (p.cmp .neq a.1 (0:Int)) (
 opt.ret _ ((0:Int),((0:Int),((0:Int),(a.1,()))))) (
 opt.no _ 41)) (fun b=>
 opt.alt ((LD×(LD×(LD×T2)))) (((LD×(LD×(LD×T2)))⊕(LD×(LD×(LD×(LD×(LD×(LD×T2)))))))) _ (some b) (fun c=>
 opt.ask _ (p.cmp .neq c.2.2.2.1 (0:Int)) (
 opt.ret _ ((0:Int),((0:Int),((0:Int),(c.2.2.2.1,()))))) (
 opt.no _ 41)) (fun d=>
 opt.alt ((LD×(LD×(LD×T2)))) ((LD×(LD×(LD×(LD×(LD×(LD×T2))))))) _ (some d) (fun e=>
 opt.ask _ (p.cmp .neq e.2.2.2.1 (0:Int)) (
 opt.ret _ ((0:Int),((0:Int),((0:Int),(e.2.2.2.1,()))))) (
 opt.no _ 41)) (fun f=>
 opt.bnd ((LD×(LD×(LD×(LD×(LD×(LD×T2))))))) _ (some f) fun g=>
 opt.ask _ (p.cmp .neq g.2.2.2.2.2.2.1 (0:Int)) (
 opt.ret _ ((0:Int),((0:Int),((0:Int),(g.2.2.2.2.2.2.1,()))))) (
 opt.alt T8 T89 _ (
 it _ _ (w9y it p) ((0:Int),((0:Int),((0:Int),((0:Int),(g.1,(g.2.1,(g.2.2.1,(g.2.2.2.1,(g.2.2.2.2.1,(g.2.2.2.2.2.1,(g.2.2.1,(g.2.2.2.2.2.1,(g.2.2.2.2.2.1,(g.2.2.1,((0:Int),())))))))))))))))) (fun h=>
 opt.ret _ (h.1,(h.2.1,(h.2.2.1,(h.2.2.2.1,()))))) (fun i=>
 opt.bnd T89 _ (some i) fun j=>
 opt.alt T8 T8 _ (
 opt.run (((Int×(Int×(Int×(Int×Unit))))⊕(Int×(Int×(Int×(Int×Unit)))))) (
 opt.alt T51 (((Int×(Int×(Int×(Int×(LD×(LD×(LD×(LD×(LD×(LD×(LD×Unit)))))))))))⊕(Int×(Int×(Int×(Int×(LD×(LD×(LD×(LD×(LD×(LD×(LD×Unit))))))))))))) _ (
 it _ _ (w9w it p) (j.1,(j.2.1,(j.2.2.1,(j.2.2.2.1,(j.2.2.2.2.1,(j.2.2.2.2.2.1,(j.2.2.2.2.2.2.1,(j.2.2.2.2.2.2.2.1,(j.2.2.2.2.2.2.2.2.1,(j.2.2.2.2.2.2.2.2.2.1,(j.2.2.2.2.2.2.1,(j.2.2.2.2.2.2.1,((p.ofNat (p.len j.2.2.2.2.2.2.1)),((0:Int),()))))))))))))))) (fun k=>
 opt.ret _ (Sum.inl (k.1,(k.2.1,(k.2.2.1,(k.2.2.2.1,())))))) (fun l=>
 opt.alt T51 T51 _ (some l) (fun m=>
 opt.ret _ (Sum.inr (m.1,(m.2.1,(m.2.2.1,(m.2.2.2.1,())))))) (fun n=>
 opt.bnd T51 _ (some n) fun o=>
 opt.ret _ (Sum.inl (o.1,(o.2.1,(o.2.2.1,(o.2.2.2.1,()))))))))) (fun q=>
 opt.ret _ ((0:Int),((0:Int),((0:Int),((5:Int),()))))) (fun r=>
 opt.bnd T8 _ (some r) fun t=>
 opt.ret _ (t.1,(t.2.1,(t.2.2.1,(t.2.2.2.1,()))))))))))
def G37:=g37 it0
theorem ok37:CtrOk PG v40 (G37 std):=okF (a:=an37) (l:=la37) (gC ok76 (gC v61 (gC v1e (gN)))) (by kernel_rfl) fun _ _=>by kernel_rfl
end Go.Am
end
noncomputable section
namespace Go.Am
def v4p:Ctr:=
 ⟨70,[.agg [.int .i64, .int .i64], .agg [.int .i64, .int .i64]],[],[(.ret,⟨[(0, .int .i64)],[],1⟩)]⟩
def la70:List LA:=
 []
def ja70:List JA:=
 []
def v9e:List CF:=
 [⟨z40,F71⟩]
def an70:Anns:=
 ⟨v9e,ja70,[]⟩
def G70:(p:Prim)→T14→Option T0:=
 fun p x=>
 opt.bnd T1 _ (F71 p (x.1,(x.2.1,(x.2.2.1,(x.2.2.2.1,()))))) fun a=>
 opt.ask _ a.1 (
 opt.ret _ ((-1:Int),())) (
 opt.ret _ ((1:Int),()))
theorem ok70:CtrOk PG v4p (G70 std):=okF (a:=an70) (l:=la70) (gC ok71 (gN)) (by kernel_rfl) fun _ _=>by kernel_rfl
def v4q:Ctr:=
 ⟨69,[.sl 0 2, .clo 70 [] []],[.row [ci,ci]],[(.ret,⟨[(0, .agg [.int .i64, .int .i64])],[.row [ci,ci]],1⟩)]⟩
def la69:List LA:=
 [⟨69,[false,true,false,true,true,true],1,⟨⟨[(0, .sl 0 2),(1, .clo 70 [] []),(4, .bptr 1 0),(5, .bptr 2 0),(6, .int .i64)],[.row [ci,ci], .box [.int .i64, .int .i64], .box [.int .i64, .int .i64]],33⟩,[((AX.exit 0),⟨[(4, .bptr 1 0),(5, .bptr 2 0)],[.row [ci,ci], .box [.int .i64, .int .i64], .box [.int .i64, .int .i64]],33⟩)]⟩⟩]
def ja69:List JA:=
 [⟨69,[true,false,false,true,false,false,true,false,true,true,true],1,[(AX.normal,⟨[(0, .sl 0 2),(1, .clo 70 [] []),(4, .bptr 1 0),(5, .bptr 2 0),(6, .int .i64)],[.row [ci,ci], .box [.int .i64, .int .i64], .box [.int .i64, .int .i64]],33⟩)]⟩]
def v9f:List CF:=
 [⟨v4p,G70⟩]
def an69:Anns:=
 ⟨v9f,ja69,[]⟩
def u0s (p:Prim):(LD×T52)→Option ((LD×T52)⊕(LD×T14)):=
 fun a=>opt.run _ (
 opt.ask _ (p.cmp .lss a.2.2.2.2.2.2.2.1 (p.ofNat a.2.2.2.2.2.2.1)) (
 opt.need _ (bif (p.cmp .geq a.2.2.2.2.2.2.2.1 (0:Int)) then (p.cmp .lss a.2.2.2.2.2.2.2.1 (p.ofNat a.2.2.2.2.2.2.1)) else Bool.false)<|
 opt.need _ (p.rowOk a.1 (p.add a.2.2.2.2.2.1 (p.nat a.2.2.2.2.2.2.2.1)) [ci,ci])<|
 opt.bnd T0 _ (G70 p ((p.rdI a.1 (p.add a.2.2.2.2.2.1 (p.nat a.2.2.2.2.2.2.2.1)) 0),((p.rdI a.1 (p.add a.2.2.2.2.2.1 (p.nat a.2.2.2.2.2.2.2.1)) 1),(a.2.2.2.1,(a.2.2.2.2.1,()))))) fun b=>
 opt.bnd ((LD×T52)) _ (
 opt.run ((LD×T52)) (
 opt.ask _ (p.cmp .lss b.1 (0:Int)) (
 opt.need _ (bif (p.cmp .geq a.2.2.2.2.2.2.2.1 (0:Int)) then (p.cmp .lss a.2.2.2.2.2.2.2.1 (p.ofNat a.2.2.2.2.2.2.1)) else Bool.false)<|
 opt.need _ (p.rowOk a.1 (p.add a.2.2.2.2.2.1 (p.nat a.2.2.2.2.2.2.2.1)) [ci,ci])<|
 opt.ret _ (a.1,(a.2.1,(a.2.2.1,((p.rdI a.1 (p.add a.2.2.2.2.2.1 (p.nat a.2.2.2.2.2.2.2.1)) 0),((p.rdI a.1 (p.add a.2.2.2.2.2.1 (p.nat a.2.2.2.2.2.2.2.1)) 1),(a.2.2.2.2.2.1,(a.2.2.2.2.2.2.1,(a.2.2.2.2.2.2.2.1,()))))))))) (
 opt.ret _ (a.1,(a.2.1,(a.2.2.1,(a.2.2.2.1,(a.2.2.2.2.1,(a.2.2.2.2.2.1,(a.2.2.2.2.2.2.1,(a.2.2.2.2.2.2.2.1,()))))))))))) fun c=>
 opt.ret _ (Sum.inl (c.1,(c.2.1,(c.2.2.1,(c.2.2.2.1,(c.2.2.2.2.1,(c.2.2.2.2.2.1,(c.2.2.2.2.2.2.1,((p.ar .add .i64 c.2.2.2.2.2.2.2.1 (1:Int)),())))))))))) (
 opt.ret _ (Sum.inr (a.1,(a.2.1,(a.2.2.1,(a.2.2.2.1,(a.2.2.2.2.1,()))))))))
def g69 (it:It):(p:Prim)→(LD×T24)→Option ((LD×T4)):=
 fun p x=>
 opt.ask _ (p.cmp .lss (p.ofNat x.2.2.1) (1:Int)) (
 opt.no _ 41) (
 opt.need _ (bif (p.cmp .geq (0:Int) (0:Int)) then (p.cmp .lss (0:Int) (p.ofNat x.2.2.1)) else Bool.false)<|
 opt.need _ (p.rowOk x.1 (p.add x.2.1 (p.nat (0:Int))) [ci,ci])<|
 opt.bnd ((LD×T14)) _ (
 it _ _ (u0s p) (x.1,((0:Int),((0:Int),((p.rdI x.1 (p.add x.2.1 (p.nat (0:Int))) 0),((p.rdI x.1 (p.add x.2.1 (p.nat (0:Int))) 1),(x.2.1,(x.2.2.1,((1:Int),()))))))))) fun a=>
 opt.ret _ (a.1,(a.2.2.2.1,(a.2.2.2.2.1,()))))
def G69:=g69 it0
theorem ok69:CtrOk PG v4q (G69 std):=okF (a:=an69) (l:=la69) (gC ok70 (gN)) (by kernel_rfl) fun _ _=>by kernel_rfl
def v49:Ctr:=
 ⟨25,[.agg [.list 2, .list 1], .agg [.list 2, .list 1]],[],[(.ret,⟨[(0, .tuple [.agg [.int .i64, .int .i64], .int .i64])],[],1⟩)]⟩
def la25:List LA:=
 [⟨25,[false,true,false,true,true,true,true,true],0,⟨⟨[(4, .bptr 0 0),(11, .bptr 1 0),(67, .agg [.list 2, .list 2, .list 2, .list 2]),(68, .int .i64)],[.box [.int .i64, .int .i64], .box [.sl 2 2], .row [ci,ci]],115⟩,[((AX.exit 0),⟨[(4, .bptr 0 0),(11, .bptr 1 0)],[.box [.int .i64, .int .i64], .box [.sl 2 2], .row [ci,ci]],115⟩)]⟩⟩,
 ⟨25,[false,true,true,false,false,true,true,false,false,true,false,true,true,true,true,true],0,⟨⟨[(4, .bptr 0 0),(11, .bptr 1 0),(13, .bptr 2 0),(67, .agg [.list 2, .list 2, .list 2, .list 2]),(68, .int .i64),(72, .list 2),(73, .int .i64),(74, .int .i64)],[.box [.int .i64, .int .i64], .box [.sl 3 2], .box [.list 2, .list 2], .row [ci,ci]],115⟩,[((AX.exit 2),⟨[(4, .bptr 0 0),(11, .bptr 1 0),(67, .agg [.list 2, .list 2, .list 2, .list 2]),(68, .int .i64)],[.box [.int .i64, .int .i64], .box [.sl 2 2], .row [ci,ci]],115⟩)]⟩⟩,
 ⟨25,[false,true,false,true,false,false,true,true,false,false,true,true,false,false,true,true,false,false,true,false,true,true,true,true,true],0,⟨⟨[(4, .bptr 0 0),(11, .bptr 1 0),(13, .bptr 2 0),(15, .bptr 3 0),(67, .agg [.list 2, .list 2, .list 2, .list 2]),(68, .int .i64),(72, .list 2),(73, .int .i64),(74, .int .i64),(79, .list 2),(80, .int .i64),(81, .int .i64)],[.box [.int .i64, .int .i64], .box [.sl 4 2], .box [.list 2, .list 2], .box [.int .i64, .int .i64], .row [ci,ci]],115⟩,[((AX.exit 4),⟨[(4, .bptr 0 0),(11, .bptr 1 0),(13, .bptr 2 0),(15, .bptr 3 0),(67, .agg [.list 2, .list 2, .list 2, .list 2]),(68, .int .i64),(72, .list 2),(73, .int .i64),(74, .int .i64)],[.box [.int .i64, .int .i64], .box [.sl 4 2], .box [.list 2, .list 2], .box [.int .i64, .int .i64], .row [ci,ci]],115⟩)]⟩⟩,
 ⟨94,[false,true],7,⟨⟨[(0, .yld 6),(1, .bptr 5 0),(6, .list 2),(7, .int .i64),(8, .int .i64)],[.box [.int .i64, .int .i64], .box [.sl 7 2], .box [.list 2, .list 2], .box [.int .i64, .int .i64], .dead, .box [.list 2], .loop Go.LoopState.ready Option.none 25 [Bool.false,Bool.true,Bool.true,Bool.true,Bool.false,Bool.false,Bool.true,Bool.true,Bool.false,Bool.false,Bool.true,Bool.true,Bool.false,Bool.false,Bool.true,Bool.true,Bool.false,Bool.false,Bool.true,Bool.false,Bool.true,Bool.true,Bool.true,Bool.true,Bool.true] 115 [(98, .clo 94 [] [.bptr 5 0]),(15, .bptr 3 0),(73, .int .i64),(72, .list 2),(13, .bptr 2 0),(11, .bptr 1 0),(67, .agg [.list 2, .list 2, .list 2, .list 2]),(4, .bptr 0 0),(68, .int .i64),(74, .int .i64)], .row [ci,ci]],33⟩,[(AX.ret,⟨[],[.box [.int .i64, .int .i64], .box [.sl 7 2], .box [.list 2, .list 2], .box [.int .i64, .int .i64], .dead, .box [.list 2], .loop Go.LoopState.ready Option.none 25 [Bool.false,Bool.true,Bool.true,Bool.true,Bool.false,Bool.false,Bool.true,Bool.true,Bool.false,Bool.false,Bool.true,Bool.true,Bool.false,Bool.false,Bool.true,Bool.true,Bool.false,Bool.false,Bool.true,Bool.false,Bool.true,Bool.true,Bool.true,Bool.true,Bool.true] 115 [(98, .clo 94 [] [.bptr 5 0]),(15, .bptr 3 0),(73, .int .i64),(72, .list 2),(13, .bptr 2 0),(11, .bptr 1 0),(67, .agg [.list 2, .list 2, .list 2, .list 2]),(4, .bptr 0 0),(68, .int .i64),(74, .int .i64)], .row [ci,ci]],33⟩),((AX.exit 0),⟨[],[.box [.int .i64, .int .i64], .box [.sl 7 2], .box [.list 2, .list 2], .box [.int .i64, .int .i64], .dead, .box [.list 2], .loop Go.LoopState.ready Option.none 25 [Bool.false,Bool.true,Bool.true,Bool.true,Bool.false,Bool.false,Bool.true,Bool.true,Bool.false,Bool.false,Bool.true,Bool.true,Bool.false,Bool.false,Bool.true,Bool.true,Bool.false,Bool.false,Bool.true,Bool.false,Bool.true,Bool.true,Bool.true,Bool.true,Bool.true] 115 [(98, .clo 94 [] [.bptr 5 0]),(15, .bptr 3 0),(73, .int .i64),(72, .list 2),(13, .bptr 2 0),(11, .bptr 1 0),(67, .agg [.list 2, .list 2, .list 2, .list 2]),(4, .bptr 0 0),(68, .int .i64),(74, .int .i64)], .row [ci,ci]],33⟩)]⟩⟩]
def ja25:List JA:=
 [⟨25,[true,true,false,true,false,true,true,true,false,false,true,true,false,false,true,true,false,false,true,true,false,false,true,false,true,true,true,true,true],20,[(AX.normal,⟨[(4, .bptr 0 0),(11, .bptr 1 0),(13, .bptr 2 0),(15, .bptr 3 0),(67, .agg [.list 2, .list 2, .list 2, .list 2]),(68, .int .i64),(72, .list 2),(73, .int .i64),(74, .int .i64)],[.box [.int .i64, .int .i64], .box [.sl 20 2], .box [.list 2, .list 2], .box [.int .i64, .int .i64], .dead, .box [.list 2], .dead, .dead, .box [.int .i64, .int .i64], .dead, .dead, .dead, .dead, .dead, .dead, .dead, .dead, .dead, .dead, .box [.int .i64, .int .i64], .row [ci,ci]],115⟩)]⟩,
 ⟨25,[true,true,true,false,false,true,true,false,false,true,true,false,false,true,true,false,false,true,false,true,true,true,true,true],0,[(AX.normal,⟨[(4, .bptr 0 0),(11, .bptr 1 0),(13, .bptr 2 0),(67, .agg [.list 2, .list 2, .list 2, .list 2]),(68, .int .i64),(72, .list 2),(73, .int .i64),(74, .int .i64)],[.box [.int .i64, .int .i64], .box [.sl 3 2], .box [.list 2, .list 2], .row [ci,ci]],115⟩)]⟩,
 ⟨25,[false,false,false,true,true,false,false,true,false,true,true,true,true,true],0,[(AX.normal,⟨[(4, .bptr 0 0),(11, .bptr 1 0),(13, .bptr 2 0),(67, .agg [.list 2, .list 2, .list 2, .list 2]),(68, .int .i64)],[.box [.int .i64, .int .i64], .box [.sl 3 2], .box [.list 2, .list 2], .row [ci,ci]],115⟩)]⟩]
def v97:List CF:=
 [⟨v4q,G69⟩,⟨v4r,G68⟩,⟨w9b,G65⟩,⟨w4q,G63⟩,⟨x7y,G62⟩]
def an25:Anns:=
 ⟨v97,ja25,[]⟩
def w93 (it:It) (p:Prim):(LD×T90)→Option ((LD×T90)⊕((LD×T33)⊕(LD×T33))):=
 fun a=>opt.run _ (
 opt.ask _ (p.cmp .lss a.2.2.2.2.2.2.2.2.2.2.2.2.2.2.2.2.2.2.2.2.1 a.2.2.2.2.2.2.2.2.2.2.2.2.2.2.2.2.2.2.2.1) (
 opt.need _ (p.rowOk a.2.2.2.2.2.2.2.2.2.2.2.2.2.2.2.2.2.2.1 (p.nat a.2.2.2.2.2.2.2.2.2.2.2.2.2.2.2.2.2.2.2.2.1) [ci,ci])<|
 opt.need _ (p.cmp .geq a.2.2.2.2.2.2.2.2.2.2.2.2.2.2.2.2.2.2.2.2.1 (0:Int))<|
 opt.need _ (p.cmp .neq (p.ofNat (p.len a.2.2.2.2.2.2.2.2.2.1)) (0:Int))<|
 opt.need _ (p.rowOk a.2.2.2.2.2.2.2.2.2.1 (p.nat (p.ar .rem .i64 (p.ar .add .i64 a.2.2.2.2.2.2.2.2.2.2.2.2.2.2.2.2.2.2.2.2.1 (1:Int)) (p.ofNat (p.len a.2.2.2.2.2.2.2.2.2.1)))) [ci,ci])<|
 opt.need _ (p.cmp .geq (p.ar .rem .i64 (p.ar .add .i64 a.2.2.2.2.2.2.2.2.2.2.2.2.2.2.2.2.2.2.2.2.1 (1:Int)) (p.ofNat (p.len a.2.2.2.2.2.2.2.2.2.1))) (0:Int))<|
 opt.ask _ (bif (p.cmp .eql (p.ar .sub .i64 (p.rdI a.2.2.2.2.2.2.2.2.2.1 (p.nat (p.ar .rem .i64 (p.ar .add .i64 a.2.2.2.2.2.2.2.2.2.2.2.2.2.2.2.2.2.2.2.2.1 (1:Int)) (p.ofNat (p.len a.2.2.2.2.2.2.2.2.2.1)))) 0) (p.rdI a.2.2.2.2.2.2.2.2.2.2.2.2.2.2.2.2.2.2.1 (p.nat a.2.2.2.2.2.2.2.2.2.2.2.2.2.2.2.2.2.2.2.2.1) 0)) (0:Int)) then (bif (p.cmp .eql (p.ar .sub .i64 (p.rdI a.2.2.2.2.2.2.2.2.2.1 (p.nat (p.ar .rem .i64 (p.ar .add .i64 a.2.2.2.2.2.2.2.2.2.2.2.2.2.2.2.2.2.2.2.2.1 (1:Int)) (p.ofNat (p.len a.2.2.2.2.2.2.2.2.2.1)))) 1) (p.rdI a.2.2.2.2.2.2.2.2.2.2.2.2.2.2.2.2.2.2.1 (p.nat a.2.2.2.2.2.2.2.2.2.2.2.2.2.2.2.2.2.2.2.2.1) 1)) (0:Int)) then Bool.true else Bool.false) else Bool.false) (
 opt.ret _ (Sum.inr (Sum.inl (a.1,(a.2.1,(a.2.2.1,(a.2.2.2.1,(a.2.2.2.2.1,(a.2.2.2.2.2.1,(a.2.2.2.2.2.2.1,(a.2.2.2.2.2.2.2.1,(a.2.2.2.2.2.2.2.2.1,(a.2.2.2.2.2.2.2.2.2.1,(a.2.2.2.2.2.2.2.2.2.2.1,(a.2.2.2.2.2.2.2.2.2.2.2.1,(a.2.2.2.2.2.2.2.2.2.2.2.2.1,(a.2.2.2.2.2.2.2.2.2.2.2.2.2.1,(a.2.2.2.2.2.2.2.2.2.2.2.2.2.2.1,(a.2.2.2.2.2.2.2.2.2.2.2.2.2.2.2.1,(a.2.2.2.2.2.2.2.2.2.2.2.2.2.2.2.2.1,(a.2.2.2.2.2.2.2.2.2.2.2.2.2.2.2.2.2.1,()))))))))))))))))))))) (
 opt.bnd T25 _ (g68 it p (a.2.2.2.2.2.2.2.1,(a.2.2.2.2.2.2.2.2.1,((p.rdI a.2.2.2.2.2.2.2.2.2.2.2.2.2.2.2.2.2.2.1 (p.nat a.2.2.2.2.2.2.2.2.2.2.2.2.2.2.2.2.2.2.2.2.1) 0),((p.rdI a.2.2.2.2.2.2.2.2.2.2.2.2.2.2.2.2.2.2.1 (p.nat a.2.2.2.2.2.2.2.2.2.2.2.2.2.2.2.2.2.2.2.2.1) 1),((p.ar .sub .i64 (p.rdI a.2.2.2.2.2.2.2.2.2.1 (p.nat (p.ar .rem .i64 (p.ar .add .i64 a.2.2.2.2.2.2.2.2.2.2.2.2.2.2.2.2.2.2.2.2.1 (1:Int)) (p.ofNat (p.len a.2.2.2.2.2.2.2.2.2.1)))) 0) (p.rdI a.2.2.2.2.2.2.2.2.2.2.2.2.2.2.2.2.2.2.1 (p.nat a.2.2.2.2.2.2.2.2.2.2.2.2.2.2.2.2.2.2.2.2.1) 0)),((p.ar .sub .i64 (p.rdI a.2.2.2.2.2.2.2.2.2.1 (p.nat (p.ar .rem .i64 (p.ar .add .i64 a.2.2.2.2.2.2.2.2.2.2.2.2.2.2.2.2.2.2.2.2.1 (1:Int)) (p.ofNat (p.len a.2.2.2.2.2.2.2.2.2.1)))) 1) (p.rdI a.2.2.2.2.2.2.2.2.2.2.2.2.2.2.2.2.2.2.1 (p.nat a.2.2.2.2.2.2.2.2.2.2.2.2.2.2.2.2.2.2.2.2.1) 1)),()))))))) fun b=>
 opt.bnd ((LD×T91)) _ (
 opt.run ((LD×T91)) (
 opt.ask _ b.2.2.1 (
 opt.need _ (p.and (p.leN (p.add 0 1) (p.len [[(D.int .i64 b.1),(D.int .i64 b.2.1)]])) (p.and (p.leN (p.add a.2.2.2.1 a.2.2.2.2.1) (p.len a.1)) (p.and (p.leN 1 1) (p.leN (p.add a.2.2.2.2.1 1) 1000000))))<|
 opt.ret _ ((p.app (p.cut a.1 a.2.2.2.1 a.2.2.2.2.1) (p.cut [[(D.int .i64 b.1),(D.int .i64 b.2.1)]] 0 1)),(a.2.1,(a.2.2.1,(0,((p.add a.2.2.2.2.1 1),(a.2.2.2.2.2.1,(a.2.2.2.2.2.2.1,(a.2.2.2.2.2.2.2.1,(a.2.2.2.2.2.2.2.2.1,(a.2.2.2.2.2.2.2.2.2.1,((p.rdI a.2.2.2.2.2.2.2.2.2.2.2.2.2.2.2.2.2.2.1 (p.nat a.2.2.2.2.2.2.2.2.2.2.2.2.2.2.2.2.2.2.2.2.1) 0),((p.rdI a.2.2.2.2.2.2.2.2.2.2.2.2.2.2.2.2.2.2.1 (p.nat a.2.2.2.2.2.2.2.2.2.2.2.2.2.2.2.2.2.2.2.2.1) 1),((p.ar .sub .i64 (p.rdI a.2.2.2.2.2.2.2.2.2.1 (p.nat (p.ar .rem .i64 (p.ar .add .i64 a.2.2.2.2.2.2.2.2.2.2.2.2.2.2.2.2.2.2.2.2.1 (1:Int)) (p.ofNat (p.len a.2.2.2.2.2.2.2.2.2.1)))) 0) (p.rdI a.2.2.2.2.2.2.2.2.2.2.2.2.2.2.2.2.2.2.1 (p.nat a.2.2.2.2.2.2.2.2.2.2.2.2.2.2.2.2.2.2.2.2.1) 0)),((p.ar .sub .i64 (p.rdI a.2.2.2.2.2.2.2.2.2.1 (p.nat (p.ar .rem .i64 (p.ar .add .i64 a.2.2.2.2.2.2.2.2.2.2.2.2.2.2.2.2.2.2.2.2.1 (1:Int)) (p.ofNat (p.len a.2.2.2.2.2.2.2.2.2.1)))) 1) (p.rdI a.2.2.2.2.2.2.2.2.2.2.2.2.2.2.2.2.2.2.1 (p.nat a.2.2.2.2.2.2.2.2.2.2.2.2.2.2.2.2.2.2.2.2.1) 1)),(a.2.2.2.2.2.2.2.2.2.2.2.2.1,(a.2.2.2.2.2.2.2.2.2.2.2.2.2.1,(a.2.2.2.2.2.2.2.2.2.2.2.2.2.2.1,(a.2.2.2.2.2.2.2.2.2.2.2.2.2.2.2.1,(a.2.2.2.2.2.2.2.2.2.2.2.2.2.2.2.2.1,(a.2.2.2.2.2.2.2.2.2.2.2.1,(a.2.2.2.2.2.2.2.2.2.2.1,(a.2.2.2.2.2.2.2.2.2.2.2.2.2.2.2.2.2.1,()))))))))))))))))))))))) (
 opt.ret _ (a.1,(a.2.1,(a.2.2.1,(a.2.2.2.1,(a.2.2.2.2.1,(a.2.2.2.2.2.1,(a.2.2.2.2.2.2.1,(a.2.2.2.2.2.2.2.1,(a.2.2.2.2.2.2.2.2.1,(a.2.2.2.2.2.2.2.2.2.1,((p.rdI a.2.2.2.2.2.2.2.2.2.2.2.2.2.2.2.2.2.2.1 (p.nat a.2.2.2.2.2.2.2.2.2.2.2.2.2.2.2.2.2.2.2.2.1) 0),((p.rdI a.2.2.2.2.2.2.2.2.2.2.2.2.2.2.2.2.2.2.1 (p.nat a.2.2.2.2.2.2.2.2.2.2.2.2.2.2.2.2.2.2.2.2.1) 1),((p.ar .sub .i64 (p.rdI a.2.2.2.2.2.2.2.2.2.1 (p.nat (p.ar .rem .i64 (p.ar .add .i64 a.2.2.2.2.2.2.2.2.2.2.2.2.2.2.2.2.2.2.2.2.1 (1:Int)) (p.ofNat (p.len a.2.2.2.2.2.2.2.2.2.1)))) 0) (p.rdI a.2.2.2.2.2.2.2.2.2.2.2.2.2.2.2.2.2.2.1 (p.nat a.2.2.2.2.2.2.2.2.2.2.2.2.2.2.2.2.2.2.2.2.1) 0)),((p.ar .sub .i64 (p.rdI a.2.2.2.2.2.2.2.2.2.1 (p.nat (p.ar .rem .i64 (p.ar .add .i64 a.2.2.2.2.2.2.2.2.2.2.2.2.2.2.2.2.2.2.2.2.1 (1:Int)) (p.ofNat (p.len a.2.2.2.2.2.2.2.2.2.1)))) 1) (p.rdI a.2.2.2.2.2.2.2.2.2.2.2.2.2.2.2.2.2.2.1 (p.nat a.2.2.2.2.2.2.2.2.2.2.2.2.2.2.2.2.2.2.2.2.1) 1)),(a.2.2.2.2.2.2.2.2.2.2.2.2.1,(a.2.2.2.2.2.2.2.2.2.2.2.2.2.1,(a.2.2.2.2.2.2.2.2.2.2.2.2.2.2.1,(a.2.2.2.2.2.2.2.2.2.2.2.2.2.2.2.1,(a.2.2.2.2.2.2.2.2.2.2.2.2.2.2.2.2.1,(a.2.2.2.2.2.2.2.2.2.2.2.1,(a.2.2.2.2.2.2.2.2.2.2.1,(a.2.2.2.2.2.2.2.2.2.2.2.2.2.2.2.2.2.1,()))))))))))))))))))))))))) fun c=>
 opt.ret _ (Sum.inl (c.1,(c.2.1,(c.2.2.1,(c.2.2.2.1,(c.2.2.2.2.1,(c.2.2.2.2.2.1,(c.2.2.2.2.2.2.1,(c.2.2.2.2.2.2.2.1,(c.2.2.2.2.2.2.2.2.1,(c.2.2.2.2.2.2.2.2.2.1,(a.2.2.2.2.2.2.2.2.2.2.1,(a.2.2.2.2.2.2.2.2.2.2.2.1,(a.2.2.2.2.2.2.2.2.2.2.2.2.1,(a.2.2.2.2.2.2.2.2.2.2.2.2.2.1,(a.2.2.2.2.2.2.2.2.2.2.2.2.2.2.1,(a.2.2.2.2.2.2.2.2.2.2.2.2.2.2.2.1,(a.2.2.2.2.2.2.2.2.2.2.2.2.2.2.2.2.1,(a.2.2.2.2.2.2.2.2.2.2.2.2.2.2.2.2.2.1,(a.2.2.2.2.2.2.2.2.2.2.2.2.2.2.2.2.2.2.1,(a.2.2.2.2.2.2.2.2.2.2.2.2.2.2.2.2.2.2.2.1,((p.ar .add .i64 a.2.2.2.2.2.2.2.2.2.2.2.2.2.2.2.2.2.2.2.2.1 (1:Int)),())))))))))))))))))))))))) (
 opt.ret _ (Sum.inr (Sum.inr (a.1,(a.2.1,(a.2.2.1,(a.2.2.2.1,(a.2.2.2.2.1,(a.2.2.2.2.2.1,(a.2.2.2.2.2.2.1,(a.2.2.2.2.2.2.2.1,(a.2.2.2.2.2.2.2.2.1,(a.2.2.2.2.2.2.2.2.2.1,(a.2.2.2.2.2.2.2.2.2.2.1,(a.2.2.2.2.2.2.2.2.2.2.2.1,(a.2.2.2.2.2.2.2.2.2.2.2.2.1,(a.2.2.2.2.2.2.2.2.2.2.2.2.2.1,(a.2.2.2.2.2.2.2.2.2.2.2.2.2.2.1,(a.2.2.2.2.2.2.2.2.2.2.2.2.2.2.2.1,(a.2.2.2.2.2.2.2.2.2.2.2.2.2.2.2.2.1,(a.2.2.2.2.2.2.2.2.2.2.2.2.2.2.2.2.2.1,()))))))))))))))))))))))
def w94 (it:It) (p:Prim):(LD×T92)→Option ((LD×T92)⊕(LD×T93)):=
 fun a=>opt.run _ (
 opt.ask _ (p.cmp .lss a.2.2.2.2.2.2.2.2.2.2.2.2.2.2.2.2.2.2.2.1 a.2.2.2.2.2.2.2.2.2.2.2.2.2.2.2.2.2.2.1) (
 opt.need _ (p.rowOk a.2.2.2.2.2.2.2.2.2.2.2.2.2.2.2.2.2.1 (p.nat a.2.2.2.2.2.2.2.2.2.2.2.2.2.2.2.2.2.2.2.1) [ci,ci])<|
 opt.need _ (p.cmp .geq a.2.2.2.2.2.2.2.2.2.2.2.2.2.2.2.2.2.2.2.1 (0:Int))<|
 opt.bnd T5 _ (g65 it p ((p.ar .add .i64 (p.ar .mul .i64 (p.ar .sub .i64 (p.rdI a.2.2.2.2.2.2.2.2.2.2.2.2.2.2.2.2.2.1 (p.nat a.2.2.2.2.2.2.2.2.2.2.2.2.2.2.2.2.2.2.2.1) 0) a.2.2.2.2.2.2.2.1) (p.ar .sub .i64 (p.rdI a.2.2.2.2.2.2.2.2.2.2.2.2.2.2.2.2.2.1 (p.nat a.2.2.2.2.2.2.2.2.2.2.2.2.2.2.2.2.2.2.2.1) 0) a.2.2.2.2.2.2.2.1)) (p.ar .mul .i64 (p.ar .sub .i64 (p.rdI a.2.2.2.2.2.2.2.2.2.2.2.2.2.2.2.2.2.1 (p.nat a.2.2.2.2.2.2.2.2.2.2.2.2.2.2.2.2.2.2.2.1) 1) a.2.2.2.2.2.2.2.2.1) (p.ar .sub .i64 (p.rdI a.2.2.2.2.2.2.2.2.2.2.2.2.2.2.2.2.2.1 (p.nat a.2.2.2.2.2.2.2.2.2.2.2.2.2.2.2.2.2.2.2.1) 1) a.2.2.2.2.2.2.2.2.1))),((1:Int),()))) fun b=>
 opt.need _ (p.and (p.leN (p.add 0 1) (p.len [[(D.int .i64 b.1),(D.int .i64 b.2.1)]])) (p.and (p.leN (p.add a.2.2.2.1 a.2.2.2.2.1) (p.len a.1)) (p.and (p.leN 1 1) (p.leN (p.add a.2.2.2.2.1 1) 1000000))))<|
 opt.ret _ (Sum.inl ((p.app (p.cut a.1 a.2.2.2.1 a.2.2.2.2.1) (p.cut [[(D.int .i64 b.1),(D.int .i64 b.2.1)]] 0 1)),(a.2.1,(a.2.2.1,(0,((p.add a.2.2.2.2.1 1),(a.2.2.2.2.2.1,(a.2.2.2.2.2.2.1,(a.2.2.2.2.2.2.2.1,(a.2.2.2.2.2.2.2.2.1,(a.2.2.2.2.2.2.2.2.2.1,(a.2.2.2.2.2.2.2.2.2.2.1,(a.2.2.2.2.2.2.2.2.2.2.2.1,(a.2.2.2.2.2.2.2.2.2.2.2.2.1,(a.2.2.2.2.2.2.2.2.2.2.2.2.2.1,(a.2.2.2.2.2.2.2.2.2.2.2.2.2.2.1,(a.2.2.2.2.2.2.2.2.2.2.2.2.2.2.2.1,(a.2.2.2.2.2.2.2.2.2.2.2.2.2.2.2.2.1,(a.2.2.2.2.2.2.2.2.2.2.2.2.2.2.2.2.2.1,(a.2.2.2.2.2.2.2.2.2.2.2.2.2.2.2.2.2.2.1,((p.ar .add .i64 a.2.2.2.2.2.2.2.2.2.2.2.2.2.2.2.2.2.2.2.1 (1:Int)),())))))))))))))))))))))) (
 opt.ret _ (Sum.inr (a.1,(a.2.1,(a.2.2.1,(a.2.2.2.1,(a.2.2.2.2.1,(a.2.2.2.2.2.1,(a.2.2.2.2.2.2.1,(a.2.2.2.2.2.2.2.1,(a.2.2.2.2.2.2.2.2.1,(a.2.2.2.2.2.2.2.2.2.1,(a.2.2.2.2.2.2.2.2.2.2.1,(a.2.2.2.2.2.2.2.2.2.2.2.1,(a.2.2.2.2.2.2.2.2.2.2.2.2.1,(a.2.2.2.2.2.2.2.2.2.2.2.2.2.1,(a.2.2.2.2.2.2.2.2.2.2.2.2.2.2.1,(a.2.2.2.2.2.2.2.2.2.2.2.2.2.2.2.1,(a.2.2.2.2.2.2.2.2.2.2.2.2.2.2.2.2.1,()))))))))))))))))))))
def w95 (it:It) (p:Prim):(LD×T53)→Option ((LD×T53)⊕(LD×T54)):=
 fun a=>opt.run _ (
 opt.ask _ (p.cmp .lss a.2.2.2.2.2.2.2.2.2.2.2.2.2.2.1 a.2.2.2.2.2.2.2.2.2.2.2.2.2.1) (
 opt.need _ (p.rowOk a.2.2.2.2.2.2.2.2.2.2.2.2.1 (p.nat a.2.2.2.2.2.2.2.2.2.2.2.2.2.2.1) [ci,ci])<|
 opt.need _ (p.cmp .geq a.2.2.2.2.2.2.2.2.2.2.2.2.2.2.1 (0:Int))<|
 opt.bnd ((LD×T93)) _ (
 it _ _ (w94 it p) (a.1,(a.2.1,(a.2.2.1,(a.2.2.2.1,(a.2.2.2.2.1,(a.2.2.2.2.2.1,(a.2.2.2.2.2.2.1,((p.rdI a.2.2.2.2.2.2.2.2.2.2.2.2.1 (p.nat a.2.2.2.2.2.2.2.2.2.2.2.2.2.2.1) 0),((p.rdI a.2.2.2.2.2.2.2.2.2.2.2.2.1 (p.nat a.2.2.2.2.2.2.2.2.2.2.2.2.2.2.1) 1),(a.2.2.2.2.2.2.2.1,(a.2.2.2.2.2.2.2.2.1,(a.2.2.2.2.2.2.2.2.2.1,(a.2.2.2.2.2.2.2.2.2.2.1,(a.2.2.2.2.2.2.2.2.2.2.2.1,(a.2.2.2.2.2.2.2.2.2.2.2.2.1,(a.2.2.2.2.2.2.2.2.2.2.2.2.2.1,(a.2.2.2.2.2.2.2.2.2.2.2.2.2.2.1,(a.2.2.2.2.2.2.1,((p.ofNat (p.len a.2.2.2.2.2.2.1)),((0:Int),()))))))))))))))))))))) fun b=>
 opt.bnd ((LD×T53)) _ (
 opt.run ((LD×T53)) (
 opt.alt ((LD×T33)) ((LD×T33)) _ (
 it _ _ (w93 it p) (b.1,(b.2.1,(b.2.2.1,(b.2.2.2.1,(b.2.2.2.2.1,(b.2.2.2.2.2.1,(b.2.2.2.2.2.2.1,(b.2.2.2.2.2.2.2.1,(b.2.2.2.2.2.2.2.2.1,(b.2.2.2.2.2.2.1,(b.2.2.2.2.2.2.2.2.2.2.2.2.2.2.2.1,(b.2.2.2.2.2.2.2.2.2.2.2.2.2.2.1,(b.2.2.2.2.2.2.2.2.2.1,(b.2.2.2.2.2.2.2.2.2.2.1,(b.2.2.2.2.2.2.2.2.2.2.2.1,(b.2.2.2.2.2.2.2.2.2.2.2.2.1,(b.2.2.2.2.2.2.2.2.2.2.2.2.2.1,(b.2.2.2.2.2.2.2.2.2.2.2.2.2.2.2.2.1,(b.2.2.2.2.2.2.1,((p.ofNat (p.len b.2.2.2.2.2.2.1)),((0:Int),())))))))))))))))))))))) (fun c=>
 opt.ret _ (c.1,(c.2.1,(c.2.2.1,(c.2.2.2.1,(c.2.2.2.2.1,(c.2.2.2.2.2.1,(c.2.2.2.2.2.2.1,(b.2.2.2.2.2.2.2.2.2.1,(b.2.2.2.2.2.2.2.2.2.2.1,(b.2.2.2.2.2.2.2.2.2.2.2.1,(b.2.2.2.2.2.2.2.2.2.2.2.2.1,(b.2.2.2.2.2.2.2.2.2.2.2.2.2.1,(b.2.2.2.2.2.2.2.2.2.2.2.2.2.2.1,(b.2.2.2.2.2.2.2.2.2.2.2.2.2.2.2.1,(b.2.2.2.2.2.2.2.2.2.2.2.2.2.2.2.2.1,())))))))))))))))) (fun d=>
 opt.bnd ((LD×T33)) _ (some d) fun e=>
 opt.ret _ (e.1,(e.2.1,(e.2.2.1,(e.2.2.2.1,(e.2.2.2.2.1,(e.2.2.2.2.2.1,(e.2.2.2.2.2.2.1,(b.2.2.2.2.2.2.2.2.2.1,(b.2.2.2.2.2.2.2.2.2.2.1,(b.2.2.2.2.2.2.2.2.2.2.2.1,(b.2.2.2.2.2.2.2.2.2.2.2.2.1,(b.2.2.2.2.2.2.2.2.2.2.2.2.2.1,(b.2.2.2.2.2.2.2.2.2.2.2.2.2.2.1,(b.2.2.2.2.2.2.2.2.2.2.2.2.2.2.2.1,(b.2.2.2.2.2.2.2.2.2.2.2.2.2.2.2.2.1,())))))))))))))))))) fun f=>
 opt.ret _ (Sum.inl (f.1,(f.2.1,(f.2.2.1,(f.2.2.2.1,(f.2.2.2.2.1,(f.2.2.2.2.2.1,(f.2.2.2.2.2.2.1,(f.2.2.2.2.2.2.2.1,(f.2.2.2.2.2.2.2.2.1,(f.2.2.2.2.2.2.2.2.2.1,(f.2.2.2.2.2.2.2.2.2.2.1,(f.2.2.2.2.2.2.2.2.2.2.2.1,(f.2.2.2.2.2.2.2.2.2.2.2.2.1,(f.2.2.2.2.2.2.2.2.2.2.2.2.2.1,((p.ar .add .i64 f.2.2.2.2.2.2.2.2.2.2.2.2.2.2.1 (1:Int)),()))))))))))))))))) (
 opt.ret _ (Sum.inr (a.1,(a.2.1,(a.2.2.1,(a.2.2.2.1,(a.2.2.2.2.1,(a.2.2.2.2.2.2.2.1,(a.2.2.2.2.2.2.2.2.1,(a.2.2.2.2.2.2.2.2.2.1,(a.2.2.2.2.2.2.2.2.2.2.1,(a.2.2.2.2.2.2.2.2.2.2.2.1,())))))))))))))
def w96 (it:It) (p:Prim):(LD×T54)→Option ((LD×T54)⊕(LD×T94)):=
 fun a=>opt.run _ (
 opt.ask _ (p.cmp .lss a.2.2.2.2.2.2.2.2.2.1 (2:Int)) (
 opt.bnd ((LD×T95)) _ (
 opt.run ((LD×T95)) (
 opt.ask _ (p.cmp .eql a.2.2.2.2.2.2.2.2.2.1 (0:Int)) (
 opt.need _ (bif (p.cmp .geq (0:Int) (0:Int)) then (p.cmp .lss (0:Int) (p.ofNat 2)) else Bool.false)<|
 opt.ret _ (a.1,(a.2.1,(a.2.2.1,(a.2.2.2.1,(a.2.2.2.2.1,(a.2.2.2.2.2.1,(a.2.2.2.2.2.2.1,(a.2.2.2.2.2.1,(a.2.2.2.2.2.2.1,(a.2.2.2.2.2.2.2.1,(a.2.2.2.2.2.2.2.2.1,((0:Int),()))))))))))))) (
 opt.need _ (p.cmp .eql a.2.2.2.2.2.2.2.2.2.1 (1:Int))<|
 opt.need _ (bif (p.cmp .geq (1:Int) (0:Int)) then (p.cmp .lss (1:Int) (p.ofNat 2)) else Bool.false)<|
 opt.ret _ (a.1,(a.2.1,(a.2.2.1,(a.2.2.2.1,(a.2.2.2.2.1,(a.2.2.2.2.2.2.2.1,(a.2.2.2.2.2.2.2.2.1,(a.2.2.2.2.2.1,(a.2.2.2.2.2.2.1,(a.2.2.2.2.2.2.2.1,(a.2.2.2.2.2.2.2.2.1,((1:Int),()))))))))))))))) fun b=>
 opt.bnd ((LD×T54)) _ (
 it _ _ (w95 it p) (b.1,(b.2.1,(b.2.2.1,(b.2.2.2.1,(b.2.2.2.2.1,(b.2.2.2.2.2.1,(b.2.2.2.2.2.2.1,(b.2.2.2.2.2.2.2.1,(b.2.2.2.2.2.2.2.2.1,(b.2.2.2.2.2.2.2.2.2.1,(b.2.2.2.2.2.2.2.2.2.2.1,(b.2.2.2.2.2.2.2.2.2.2.2.1,(b.2.2.2.2.2.1,((p.ofNat (p.len b.2.2.2.2.2.1)),((0:Int),())))))))))))))))) fun c=>
 opt.ret _ (Sum.inl (c.1,(c.2.1,(c.2.2.1,(c.2.2.2.1,(c.2.2.2.2.1,(c.2.2.2.2.2.1,(c.2.2.2.2.2.2.1,(c.2.2.2.2.2.2.2.1,(c.2.2.2.2.2.2.2.2.1,((p.ar .add .i64 c.2.2.2.2.2.2.2.2.2.1 (1:Int)),())))))))))))) (
 opt.ret _ (Sum.inr (a.1,(a.2.1,(a.2.2.1,(a.2.2.2.1,(a.2.2.2.2.1,()))))))))
def g25 (it:It):(p:Prim)→(LD×(LD×(LD×(LD×Unit))))→Option T7:=
 fun p x=>
 opt.alt T0 (((LD×(LD×(LD×T2)))⊕((LD×(LD×(LD×T2)))⊕(LD×(LD×(LD×(LD×(LD×(LD×T2))))))))) _ (g62 it p (x.1,(x.2.1,(x.2.2.1,(x.2.2.2.1,()))))) (fun a=>
 opt.ask _ (p.cmp .neq a.1 (0:Int)) (
 opt.ret _ ((0:Int),((0:Int),(a.1,())))) (
 opt.no _ 41)) (fun b=>
 opt.alt ((LD×(LD×(LD×T2)))) (((LD×(LD×(LD×T2)))⊕(LD×(LD×(LD×(LD×(LD×(LD×T2)))))))) _ (some b) (fun c=>
 opt.ask _ (p.cmp .neq c.2.2.2.1 (0:Int)) (
 opt.ret _ ((0:Int),((0:Int),(c.2.2.2.1,())))) (
 opt.no _ 41)) (fun d=>
 opt.alt ((LD×(LD×(LD×T2)))) ((LD×(LD×(LD×(LD×(LD×(LD×T2))))))) _ (some d) (fun e=>
 opt.ask _ (p.cmp .neq e.2.2.2.1 (0:Int)) (
 opt.ret _ ((0:Int),((0:Int),(e.2.2.2.1,())))) (
 opt.no _ 41)) (fun f=>
 opt.bnd ((LD×(LD×(LD×(LD×(LD×(LD×T2))))))) _ (some f) fun g=>
 opt.ask _ (p.cmp .neq g.2.2.2.2.2.2.1 (0:Int)) (
 opt.ret _ ((0:Int),((0:Int),(g.2.2.2.2.2.2.1,())))) (
 opt.bnd T27 _ (g63 it p (g.2.2.1,(g.2.2.2.2.2.1,()))) fun h=>
 opt.ask _ (bif h.2.2.2.1 then Bool.false else Bool.true) (
 opt.ret _ ((0:Int),((1:Int),((0:Int),())))) (
 opt.need _ (p.leN (p.add 0 0) (p.len []))<|
 opt.bnd ((LD×T94)) _ (
 it _ _ (w96 it p) ([],((0:Int),((0:Int),(0,(0,(g.2.2.1,(g.2.2.2.2.2.1,(g.2.2.2.2.2.1,(g.2.2.1,((0:Int),()))))))))))) fun i=>
 opt.bnd ((LD×T4)) _ (g69 it p (i.1,(i.2.2.2.1,(i.2.2.2.2.1,())))) fun j=>
 opt.ret _ (j.2.1,(j.2.2.1,((0:Int),()))))))))
def G25:=g25 it0
theorem ok25:CtrOk PG v49 (G25 std):=okF (a:=an25) (l:=la25) (gC ok69 (gC ok68 (gC u1u (gC v7q (gC v1e (gN)))))) (by kernel_rfl) fun _ _=>by kernel_rfl
end Go.Am
end
noncomputable section
namespace Go.Am
def v48:Ctr:=
 ⟨27,[.list 2],[],[(.ret,⟨[(0, .tuple [.int .i64, .int .i64, .int .i64])],[],1⟩)]⟩
def la27:List LA:=
 [⟨27,[false,true,false,true,true,true],0,⟨⟨[(5, .vec 0 1),(22, .list 2),(23, .int .i64),(24, .int .i64)],[.row [(CK.ref [(CR.list 2),(CR.list 1),(CR.list 2)])]],103⟩,[(AX.ret,⟨[(2, .int .i64),(3, .int .i64),(4, .int .i64)],[],103⟩),((AX.exit 0),⟨[(5, .vec 0 1)],[.row [(CK.ref [(CR.list 2),(CR.list 1),(CR.list 2)])]],103⟩)]⟩⟩,
 ⟨27,[false,true,false,true,true,true,true,true],0,⟨⟨[(5, .vec 0 1),(10, .map 1),(42, .vec 0 1),(43, .int .i64),(44, .int .i64)],[.row [(CK.ref [(CR.list 2),(CR.list 1),(CR.list 2)])], .map],103⟩,[((AX.exit 2),⟨[(5, .vec 0 1),(10, .map 1)],[.row [(CK.ref [(CR.list 2),(CR.list 1),(CR.list 2)])], .map],103⟩)]⟩⟩,
 ⟨27,[false,true,true,false,false,true,true,false,false,true,false,true,true,true,true,true],0,⟨⟨[(5, .vec 0 1),(10, .map 1),(11, .int .i64),(12, .ref [.list 2, .list 1, .list 2]),(42, .vec 0 1),(43, .int .i64),(44, .int .i64),(52, .slc 0 1),(53, .int .i64),(54, .int .i64)],[.row [(CK.ref [(CR.list 2),(CR.list 1),(CR.list 2)])], .map],103⟩,[((AX.exit 4),⟨[(5, .vec 0 1),(10, .map 1),(42, .vec 0 1),(43, .int .i64),(44, .int .i64)],[.row [(CK.ref [(CR.list 2),(CR.list 1),(CR.list 2)])], .map],103⟩)]⟩⟩,
 ⟨27,[false,true,false,true,true,true,true,true,true],0,⟨⟨[(5, .vec 0 1),(10, .map 1),(84, .int .i64),(85, .int .i64)],[.row [(CK.ref [(CR.list 2),(CR.list 1),(CR.list 2)])], .map],103⟩,[(AX.ret,⟨[(2, .int .i64),(3, .int .i64),(4, .int .i64)],[],103⟩),((AX.exit 6),⟨[],[],103⟩)]⟩⟩,
 ⟨27,[false,true,true,false,false,true,true,false,false,true,false,true,true,true,true,true,true],0,⟨⟨[(5, .vec 0 1),(10, .map 1),(17, .int .i64),(84, .int .i64),(85, .int .i64),(89, .int .i64),(90, .int .i64)],[.row [(CK.ref [(CR.list 2),(CR.list 1),(CR.list 2)])], .map],103⟩,[(AX.ret,⟨[(2, .int .i64),(3, .int .i64),(4, .int .i64)],[],103⟩),((AX.exit 8),⟨[(5, .vec 0 1),(10, .map 1),(84, .int .i64),(85, .int .i64)],[.row [(CK.ref [(CR.list 2),(CR.list 1),(CR.list 2)])], .map],103⟩)]⟩⟩]
def ja27:List JA:=
 [⟨27,[true,true,true,false,false,true,true,false,false,true,true,false,false,true,true,false,false,true,false,true,true,true,true,true],0,[(AX.normal,⟨[(5, .vec 0 1),(10, .map 1),(11, .int .i64),(12, .ref [.list 2, .list 1, .list 2]),(42, .vec 0 1),(43, .int .i64),(44, .int .i64),(52, .slc 0 1),(53, .int .i64),(54, .int .i64)],[.row [(CK.ref [(CR.list 2),(CR.list 1),(CR.list 2)])], .map],103⟩)]⟩,
 ⟨27,[false,true,true,false,false,true,true,false,false,true,true,false,false,true,false,true,true,true,true,true,true],0,[(AX.ret,⟨[(2, .int .i64),(3, .int .i64),(4, .int .i64)],[],103⟩),(AX.normal,⟨[(5, .vec 0 1),(10, .map 1),(17, .int .i64),(84, .int .i64),(85, .int .i64),(89, .int .i64),(90, .int .i64)],[.row [(CK.ref [(CR.list 2),(CR.list 1),(CR.list 2)])], .map],103⟩)]⟩,
 ⟨27,[false,true,true,false,false,true,false,true,true,true],0,[(AX.ret,⟨[(2, .int .i64),(3, .int .i64),(4, .int .i64)],[],103⟩),(AX.normal,⟨[(5, .vec 0 1),(22, .list 2),(23, .int .i64),(24, .int .i64)],[.row [(CK.ref [(CR.list 2),(CR.list 1),(CR.list 2)])]],103⟩)]⟩]
def v96:List CF:=
 [⟨w4q,G63⟩,⟨x7z,G48⟩]
def an27:Anns:=
 ⟨v96,ja27,[⟨27,[true,true,true,false,false,true,true,false,false,true,false,true,true,true],⟨[(5, .vec 0 1),(8, .ref [.list 2, .list 1, .list 2]),(22, .list 2),(23, .int .i64),(24, .int .i64)],[.row [(CK.ref [(CR.list 2),(CR.list 1),(CR.list 2)])]],103⟩⟩]⟩
def u1a (p:Prim):(LD×T55)→Option ((LD×T55)⊕((Int×(Int×(Int×Unit)))⊕(LD×(List ((D×D))×(Int×(Int×Unit)))))):=
 fun a=>opt.run _ (
 opt.ask _ (p.cmp .lss a.2.2.2.2.2.2.1 a.2.2.2.2.2.1) (
 opt.alt T7 ((LD×T55)) _ (
 opt.run (((Int×(Int×(Int×Unit)))⊕(LD×(List ((D×D))×(Int×(Int×(Int×(Int×(Int×Unit))))))))) (
 opt.need _ (p.mOk a.2.1 [SK.i,SK.i] Bool.true (D.agg [(D.int .i64 a.2.2.1),(D.int .i64 a.2.2.2.2.2.2.1)]) Bool.false [ci])<|
 opt.ask _ (p.mhas a.2.1 [SK.i,SK.i] Bool.true (D.agg [(D.int .i64 a.2.2.1),(D.int .i64 a.2.2.2.2.2.2.1)])) (
 opt.ask _ (p.cmp .gtr (p.mI a.2.1 [SK.i,SK.i] Bool.true (D.agg [(D.int .i64 a.2.2.1),(D.int .i64 a.2.2.2.2.2.2.1)]) 0) (0:Int)) (
 opt.ret _ (Sum.inl (a.2.2.1,(a.2.2.2.2.2.2.1,((0:Int),()))))) (
 opt.need _ (p.eqN 0 0)<|
 opt.need _ (p.eqN (p.len a.1) (p.len a.1))<|
 opt.ret _ (Sum.inr (a.1,(a.2.1,(a.2.2.1,(a.2.2.2.1,(a.2.2.2.2.1,(a.2.2.2.2.2.1,(a.2.2.2.2.2.2.1,())))))))))) (
 opt.ask _ (p.cmp .gtr (0:Int) (0:Int)) (
 opt.ret _ (Sum.inl (a.2.2.1,(a.2.2.2.2.2.2.1,((0:Int),()))))) (
 opt.need _ (p.eqN 0 0)<|
 opt.need _ (p.eqN (p.len a.1) (p.len a.1))<|
 opt.ret _ (Sum.inr (a.1,(a.2.1,(a.2.2.1,(a.2.2.2.1,(a.2.2.2.2.1,(a.2.2.2.2.2.1,(a.2.2.2.2.2.2.1,())))))))))))) (fun b=>
 opt.ret _ (Sum.inr (Sum.inl (b.1,(b.2.1,(b.2.2.1,())))))) (fun c=>
 opt.bnd ((LD×T55)) _ (some c) fun d=>
 opt.need _ (p.eqN 0 0)<|
 opt.need _ (p.eqN (p.len d.1) (p.len d.1))<|
 opt.ret _ (Sum.inl (d.1,(d.2.1,(d.2.2.1,(d.2.2.2.1,(d.2.2.2.2.1,(d.2.2.2.2.2.1,((p.ar .add .i64 d.2.2.2.2.2.2.1 (1:Int)),())))))))))) (
 opt.need _ (p.eqN 0 0)<|
 opt.need _ (p.eqN (p.len a.1) (p.len a.1))<|
 opt.ret _ (Sum.inr (Sum.inr (a.1,(a.2.1,(a.2.2.2.1,(a.2.2.2.2.1,()))))))))
def w9z (it:It) (p:Prim):(LD×T23)→Option ((LD×T23)⊕((Int×(Int×(Int×Unit)))⊕Unit)):=
 fun a=>opt.run _ (
 opt.ask _ (p.cmp .lss a.2.2.2.1 a.2.2.1) (
 opt.need _ (p.eqN 0 0)<|
 opt.need _ (p.eqN (p.len a.1) (p.len a.1))<|
 opt.alt T7 ((LD×T23)) _ (
 it _ _ (u1a p) (a.1,(a.2.1,(a.2.2.2.1,(a.2.2.1,(a.2.2.2.1,((p.ofNat (p.len a.1)),((0:Int),())))))))) (fun b=>
 opt.ret _ (Sum.inr (Sum.inl (b.1,(b.2.1,(b.2.2.1,())))))) (fun c=>
 opt.bnd ((LD×T23)) _ (some c) fun d=>
 opt.need _ (p.eqN 0 0)<|
 opt.need _ (p.eqN (p.len d.1) (p.len d.1))<|
 opt.ret _ (Sum.inl (d.1,(d.2.1,(d.2.2.1,((p.ar .add .i64 d.2.2.2.1 (1:Int)),()))))))) (
 opt.ret _ (Sum.inr (Sum.inr ()))))
def w90 (it:It) (p:Prim):(LD×T56)→Option ((LD×T56)⊕(LD×T23)):=
 fun a=>opt.run _ (
 opt.ask _ (p.cmp .lss a.2.2.2.2.2.2.2.2.2.2.2.2.1 a.2.2.2.2.2.2.2.2.2.2.2.1) (
 opt.need _ (bif (p.cmp .geq a.2.2.2.2.2.2.2.2.2.2.2.2.1 (0:Int)) then (p.cmp .lss a.2.2.2.2.2.2.2.2.2.2.2.2.1 (p.ofNat a.2.2.2.2.2.2.2.2.2.1)) else Bool.false)<|
 opt.need _ (p.rowOk a.1 (p.add a.2.2.2.2.2.2.2.2.1 (p.nat a.2.2.2.2.2.2.2.2.2.2.2.2.1)) [(CK.ref [(CR.list 2),(CR.list 1),(CR.list 2)])])<|
 opt.bnd T27 _ (g63 it p ((p.rdL (p.rdR a.1 (p.add a.2.2.2.2.2.2.2.2.1 (p.nat a.2.2.2.2.2.2.2.2.2.2.2.2.1)) 0) 0 2),(a.2.2.2.2.2.1,()))) fun b=>
 opt.bnd ((LD×T56)) _ (
 opt.run ((LD×T56)) (
 opt.ask _ (bif b.2.2.2.1 then Bool.false else Bool.true) (
 opt.need _ (p.mOk a.2.1 [SK.i,SK.i] Bool.true (D.agg [(D.int .i64 a.2.2.2.2.2.2.2.2.2.2.2.2.1),(D.int .i64 a.2.2.1)]) Bool.false [ci])<|
 opt.ask _ (p.mhas a.2.1 [SK.i,SK.i] Bool.true (D.agg [(D.int .i64 a.2.2.2.2.2.2.2.2.2.2.2.2.1),(D.int .i64 a.2.2.1)])) (
 opt.need _ (p.eqN 0 0)<|
 opt.need _ (p.eqN (p.len a.1) (p.len a.1))<|
 opt.need _ (p.eqN 0 0)<|
 opt.need _ (p.eqN (p.len a.1) (p.len a.1))<|
 opt.ret _ (a.1,((p.mset a.2.1 (p.nat (p.ofNat (p.mpos a.2.1 [SK.i,SK.i] Bool.true (D.agg [(D.int .i64 a.2.2.2.2.2.2.2.2.2.2.2.2.1),(D.int .i64 a.2.2.1)])))) (D.agg [(D.int .i64 a.2.2.2.2.2.2.2.2.2.2.2.2.1),(D.int .i64 a.2.2.1)]) (D.int .i64 (p.ar .add .i64 (p.mI a.2.1 [SK.i,SK.i] Bool.true (D.agg [(D.int .i64 a.2.2.2.2.2.2.2.2.2.2.2.2.1),(D.int .i64 a.2.2.1)]) 0) (1:Int)))),(a.2.2.1,(a.2.2.2.1,(a.2.2.2.2.1,(a.2.2.2.2.2.1,(a.2.2.2.2.2.2.1,(a.2.2.2.2.2.2.2.1,(a.2.2.2.2.2.2.2.2.1,(a.2.2.2.2.2.2.2.2.2.1,(a.2.2.2.2.2.2.2.2.2.2.1,(a.2.2.2.2.2.2.2.2.2.2.2.1,(a.2.2.2.2.2.2.2.2.2.2.2.2.1,())))))))))))))) (
 opt.need _ (p.eqN 0 0)<|
 opt.need _ (p.eqN (p.len a.1) (p.len a.1))<|
 opt.need _ (p.eqN 0 0)<|
 opt.need _ (p.eqN (p.len a.1) (p.len a.1))<|
 opt.ret _ (a.1,((p.madd a.2.1 (D.agg [(D.int .i64 a.2.2.2.2.2.2.2.2.2.2.2.2.1),(D.int .i64 a.2.2.1)]) (D.int .i64 (p.ar .add .i64 (0:Int) (1:Int)))),(a.2.2.1,(a.2.2.2.1,(a.2.2.2.2.1,(a.2.2.2.2.2.1,(a.2.2.2.2.2.2.1,(a.2.2.2.2.2.2.2.1,(a.2.2.2.2.2.2.2.2.1,(a.2.2.2.2.2.2.2.2.2.1,(a.2.2.2.2.2.2.2.2.2.2.1,(a.2.2.2.2.2.2.2.2.2.2.2.1,(a.2.2.2.2.2.2.2.2.2.2.2.2.1,()))))))))))))))) (
 opt.need _ (p.eqN 0 0)<|
 opt.need _ (p.eqN (p.len a.1) (p.len a.1))<|
 opt.need _ (p.eqN 0 0)<|
 opt.need _ (p.eqN (p.len a.1) (p.len a.1))<|
 opt.ret _ (a.1,(a.2.1,(a.2.2.1,(a.2.2.2.1,(a.2.2.2.2.1,(a.2.2.2.2.2.1,(a.2.2.2.2.2.2.1,(a.2.2.2.2.2.2.2.1,(a.2.2.2.2.2.2.2.2.1,(a.2.2.2.2.2.2.2.2.2.1,(a.2.2.2.2.2.2.2.2.2.2.1,(a.2.2.2.2.2.2.2.2.2.2.2.1,(a.2.2.2.2.2.2.2.2.2.2.2.2.1,())))))))))))))))) fun c=>
 opt.need _ (p.eqN 0 0)<|
 opt.need _ (p.eqN (p.len c.1) (p.len c.1))<|
 opt.need _ (p.eqN 0 0)<|
 opt.need _ (p.eqN (p.len c.1) (p.len c.1))<|
 opt.ret _ (Sum.inl (c.1,(c.2.1,(c.2.2.1,(c.2.2.2.1,(c.2.2.2.2.1,(c.2.2.2.2.2.1,(c.2.2.2.2.2.2.1,(c.2.2.2.2.2.2.2.1,(c.2.2.2.2.2.2.2.2.1,(c.2.2.2.2.2.2.2.2.2.1,(c.2.2.2.2.2.2.2.2.2.2.1,(c.2.2.2.2.2.2.2.2.2.2.2.1,((p.ar .add .i64 c.2.2.2.2.2.2.2.2.2.2.2.2.1 (1:Int)),()))))))))))))))) (
 opt.need _ (p.eqN 0 0)<|
 opt.need _ (p.eqN (p.len a.1) (p.len a.1))<|
 opt.need _ (p.eqN 0 0)<|
 opt.need _ (p.eqN (p.len a.1) (p.len a.1))<|
 opt.ret _ (Sum.inr (a.1,(a.2.1,(a.2.2.2.2.2.2.1,(a.2.2.2.2.2.2.2.1,())))))))
def w91 (it:It) (p:Prim):(LD×T23)→Option ((LD×T23)⊕(LD×(List ((D×D))×Unit))):=
 fun a=>opt.run _ (
 opt.ask _ (p.cmp .lss a.2.2.2.1 a.2.2.1) (
 opt.need _ (bif (p.cmp .geq a.2.2.2.1 (0:Int)) then (p.cmp .lss a.2.2.2.1 (p.ofNat (p.len a.1))) else Bool.false)<|
 opt.need _ (p.rowOk a.1 (p.add 0 (p.nat a.2.2.2.1)) [(CK.ref [(CR.list 2),(CR.list 1),(CR.list 2)])])<|
 opt.need _ (p.and (p.cmp .geq (0:Int) (0:Int)) (p.and (p.cmp .leq (0:Int) a.2.2.2.1) (p.and (p.cmp .leq a.2.2.2.1 a.2.2.2.1) (p.cmp .leq a.2.2.2.1 (p.ofNat (p.len a.1))))))<|
 opt.need _ (p.eqN 0 0)<|
 opt.need _ (p.eqN (p.len a.1) (p.len a.1))<|
 opt.need _ (p.eqN 0 0)<|
 opt.need _ (p.eqN (p.len a.1) (p.len a.1))<|
 opt.bnd ((LD×T23)) _ (
 it _ _ (w90 it p) (a.1,(a.2.1,(a.2.2.2.1,((p.rdL (p.rdR a.1 (p.add 0 (p.nat a.2.2.2.1)) 0) 0 0),((p.rdL (p.rdR a.1 (p.add 0 (p.nat a.2.2.2.1)) 0) 0 1),((p.rdL (p.rdR a.1 (p.add 0 (p.nat a.2.2.2.1)) 0) 0 2),(a.2.2.1,(a.2.2.2.1,((p.add 0 (p.nat (0:Int))),((p.sub (p.nat a.2.2.2.1) (p.nat (0:Int))),((p.sub (p.nat a.2.2.2.1) (p.nat (0:Int))),((p.ofNat (p.sub (p.nat a.2.2.2.1) (p.nat (0:Int)))),((0:Int),())))))))))))))) fun b=>
 opt.need _ (p.eqN 0 0)<|
 opt.need _ (p.eqN (p.len b.1) (p.len b.1))<|
 opt.need _ (p.eqN 0 0)<|
 opt.need _ (p.eqN (p.len b.1) (p.len b.1))<|
 opt.ret _ (Sum.inl (b.1,(b.2.1,(b.2.2.1,((p.ar .add .i64 b.2.2.2.1 (1:Int)),())))))) (
 opt.need _ (p.eqN 0 0)<|
 opt.need _ (p.eqN (p.len a.1) (p.len a.1))<|
 opt.ret _ (Sum.inr (a.1,(a.2.1,())))))
def w92 (it:It) (p:Prim):(LD×(LD×T4))→Option ((LD×(LD×T4))⊕((Int×(Int×(Int×Unit)))⊕(LD×Unit))):=
 fun a=>opt.run _ (
 opt.ask _ (p.cmp .lss a.2.2.2.1 a.2.2.1) (
 opt.alt T7 ((LD×(LD×T4))) _ (
 opt.run (((Int×(Int×(Int×Unit)))⊕(LD×(LD×(Int×(Int×Unit)))))) (
 opt.need _ (p.rowOk a.2.1 (p.nat a.2.2.2.1) [(CK.list 2),(CK.list 1)])<|
 opt.need _ (p.cmp .geq a.2.2.2.1 (0:Int))<|
 opt.alt T0 ((LD×(LD×(LD×T2)))) _ (g48 it p ((p.rdL a.2.1 (p.nat a.2.2.2.1) 0),((p.rdL a.2.1 (p.nat a.2.2.2.1) 1),()))) (fun b=>
 opt.ask _ (p.cmp .neq b.1 (0:Int)) (
 opt.ret _ (Sum.inl ((0:Int),((0:Int),(b.1,()))))) (
 opt.no _ 96)) (fun c=>
 opt.bnd ((LD×(LD×(LD×T2)))) _ (some c) fun d=>
 opt.ask _ (p.cmp .neq d.2.2.2.1 (0:Int)) (
 opt.ret _ (Sum.inl ((0:Int),((0:Int),(d.2.2.2.1,()))))) (
 opt.need _ (p.eqN 0 0)<|
 opt.need _ (p.eqN (p.len a.1) (p.len a.1))<|
 opt.need _ (p.and (p.leN (p.add 0 1) (p.len [[(D.ref [(D.list Bool.false 2 d.1),(D.list Bool.false 1 d.2.1),(D.list Bool.false 2 d.2.2.1)])]])) (p.and (p.leN (p.add 0 (p.len a.1)) (p.len a.1)) (p.and (p.leN 1 1) (p.leN (p.add (p.len a.1) 1) 1000000))))<|
 opt.need _ (p.eqN 0 0)<|
 opt.need _ (p.eqN (p.add (p.len a.1) 1) (p.len (p.app (p.cut a.1 0 (p.len a.1)) (p.cut [[(D.ref [(D.list Bool.false 2 d.1),(D.list Bool.false 1 d.2.1),(D.list Bool.false 2 d.2.2.1)])]] 0 1))))<|
 opt.ret _ (Sum.inr ((p.app (p.cut a.1 0 (p.len a.1)) (p.cut [[(D.ref [(D.list Bool.false 2 d.1),(D.list Bool.false 1 d.2.1),(D.list Bool.false 2 d.2.2.1)])]] 0 1)),(a.2.1,(a.2.2.1,(a.2.2.2.1,()))))))))) (fun e=>
 opt.ret _ (Sum.inr (Sum.inl (e.1,(e.2.1,(e.2.2.1,())))))) (fun f=>
 opt.bnd ((LD×(LD×T4))) _ (some f) fun g=>
 opt.need _ (p.eqN 0 0)<|
 opt.need _ (p.eqN (p.len g.1) (p.len g.1))<|
 opt.ret _ (Sum.inl (g.1,(g.2.1,(g.2.2.1,((p.ar .add .i64 g.2.2.2.1 (1:Int)),()))))))) (
 opt.need _ (p.eqN 0 0)<|
 opt.need _ (p.eqN (p.len a.1) (p.len a.1))<|
 opt.ret _ (Sum.inr (Sum.inr (a.1,())))))
def g27 (it:It):(p:Prim)→(LD×Unit)→Option T7:=
 fun p x=>
 opt.ask _ (p.cmp .gtr (p.ofNat (p.len x.1)) (8:Int)) (
 opt.ret _ ((0:Int),((0:Int),((6:Int),())))) (
 opt.alt T7 ((LD×Unit)) _ (
 it _ _ (w92 it p) ([],(x.1,((p.ofNat (p.len x.1)),((0:Int),()))))) (fun a=>
 opt.ret _ (a.1,(a.2.1,(a.2.2.1,())))) (fun b=>
 opt.bnd ((LD×Unit)) _ (some b) fun c=>
 opt.need _ (p.eqN 0 0)<|
 opt.need _ (p.eqN (p.len c.1) (p.len c.1))<|
 opt.need _ (p.eqN 0 0)<|
 opt.need _ (p.eqN (p.len c.1) (p.len c.1))<|
 opt.bnd ((LD×(List ((D×D))×Unit))) _ (
 it _ _ (w91 it p) (c.1,([],((p.ofNat (p.len c.1)),((0:Int),()))))) fun d=>
 opt.need _ (p.eqN 0 0)<|
 opt.need _ (p.eqN (p.len d.1) (p.len d.1))<|
 opt.alt T7 (Unit) _ (
 it _ _ (w9z it p) (d.1,(d.2.1,((p.ofNat (p.len d.1)),((0:Int),()))))) (fun e=>
 opt.ret _ (e.1,(e.2.1,(e.2.2.1,())))) (fun f=>
 opt.bnd (Unit) _ (some f) fun g=>
 opt.ret _ ((0:Int),((0:Int),((5:Int),()))))))
def G27:=g27 it0
theorem ok27:CtrOk PG v48 (G27 std):=okF (a:=an27) (l:=la27) (gC v7q (gC v1f (gN))) (by kernel_rfl) fun _ _=>by kernel_rfl
end Go.Am
end
noncomputable section
namespace Go.Am
def v4v:Ctr:=
 ⟨45,[.agg [.list 2, .list 1]],[],[(.ret,⟨[(0, .list 2)],[],1⟩)]⟩
def la45:List LA:=
 [⟨45,[false,true,false,true,true],0,⟨⟨[(1, .bptr 0 0),(3, .list 2),(4, .int .i64)],[.box [.list 2, .list 1]],51⟩,[((AX.exit 0),⟨[(3, .list 2)],[],51⟩)]⟩⟩,
 ⟨45,[false,true,false,true,false,false,true,false,false,true,false,true,true],0,⟨⟨[(1, .bptr 0 0),(3, .list 2),(4, .int .i64),(5, .vec 1 2),(6, .int .i64)],[.box [.list 2, .list 1], .row [ci,ci]],51⟩,[((AX.exit 2),⟨[(1, .bptr 0 0),(4, .int .i64),(5, .vec 1 2)],[.box [.list 2, .list 1], .row [ci,ci]],51⟩)]⟩⟩,
 ⟨45,[false,true,false,false,true,false,false,true,false,true,false,false,true,false,false,true,false,true,true],0,⟨⟨[(1, .bptr 0 0),(3, .list 2),(4, .int .i64),(5, .vec 1 2),(6, .int .i64),(7, .int .i64)],[.box [.list 2, .list 1], .row [ci,ci]],51⟩,[((AX.exit 4),⟨[(1, .bptr 0 0),(3, .list 2),(4, .int .i64),(5, .vec 1 2),(6, .int .i64)],[.box [.list 2, .list 1], .row [ci,ci]],51⟩)]⟩⟩]
def ja45:List JA:=
 []
def v9u:List CF:=
 []
def an45:Anns:=
 ⟨v9u,ja45,[]⟩
def x8f (p:Prim):(LD×(LD×(LD×(LD×T6))))→Option ((LD×(LD×(LD×(LD×T6))))⊕(LD×(LD×(LD×(LD×T4))))):=
 fun a=>opt.run _ (
 opt.need _ (p.rowOk a.2.2.1 (p.nat a.2.2.2.2.1) [(CK.list 2)])<|
 opt.need _ (p.cmp .geq a.2.2.2.2.1 (0:Int))<|
 opt.ask _ (p.cmp .lss a.2.2.2.2.2.2.1 (p.ofNat (p.len (p.rdL a.2.2.1 (p.nat a.2.2.2.2.1) 0)))) (
 opt.need _ (p.rowOk a.2.2.2.1 (p.nat a.2.2.2.2.2.1) [ci,ci])<|
 opt.need _ (p.cmp .geq a.2.2.2.2.2.1 (0:Int))<|
 opt.need _ (p.rowOk a.2.2.1 (p.nat a.2.2.2.2.1) [(CK.list 2)])<|
 opt.need _ (p.cmp .geq a.2.2.2.2.1 (0:Int))<|
 opt.need _ (p.rowOk (p.rdL a.2.2.1 (p.nat a.2.2.2.2.1) 0) (p.nat a.2.2.2.2.2.2.1) [ci,ci])<|
 opt.need _ (p.cmp .geq a.2.2.2.2.2.2.1 (0:Int))<|
 opt.need _ (p.and (p.leN (p.add 0 1) (p.len [[(D.int .i64 (p.ar .add .i64 (p.rdI a.2.2.2.1 (p.nat a.2.2.2.2.2.1) 0) (p.rdI (p.rdL a.2.2.1 (p.nat a.2.2.2.2.1) 0) (p.nat a.2.2.2.2.2.2.1) 0))),(D.int .i64 (p.ar .add .i64 (p.rdI a.2.2.2.1 (p.nat a.2.2.2.2.2.1) 1) (p.rdI (p.rdL a.2.2.1 (p.nat a.2.2.2.2.1) 0) (p.nat a.2.2.2.2.2.2.1) 1)))]])) (p.and (p.leN (p.add 0 (p.len a.1)) (p.len a.1)) (p.and (p.leN 1 1) (p.leN (p.add (p.len a.1) 1) 1000000))))<|
 opt.need _ (p.eqN 0 0)<|
 opt.need _ (p.eqN (p.add (p.len a.1) 1) (p.len (p.app (p.cut a.1 0 (p.len a.1)) (p.cut [[(D.int .i64 (p.ar .add .i64 (p.rdI a.2.2.2.1 (p.nat a.2.2.2.2.2.1) 0) (p.rdI (p.rdL a.2.2.1 (p.nat a.2.2.2.2.1) 0) (p.nat a.2.2.2.2.2.2.1) 0))),(D.int .i64 (p.ar .add .i64 (p.rdI a.2.2.2.1 (p.nat a.2.2.2.2.2.1) 1) (p.rdI (p.rdL a.2.2.1 (p.nat a.2.2.2.2.1) 0) (p.nat a.2.2.2.2.2.2.1) 1)))]] 0 1))))<|
 opt.ret _ (Sum.inl ((p.app (p.cut a.1 0 (p.len a.1)) (p.cut [[(D.int .i64 (p.ar .add .i64 (p.rdI a.2.2.2.1 (p.nat a.2.2.2.2.2.1) 0) (p.rdI (p.rdL a.2.2.1 (p.nat a.2.2.2.2.1) 0) (p.nat a.2.2.2.2.2.2.1) 0))),(D.int .i64 (p.ar .add .i64 (p.rdI a.2.2.2.1 (p.nat a.2.2.2.2.2.1) 1) (p.rdI (p.rdL a.2.2.1 (p.nat a.2.2.2.2.1) 0) (p.nat a.2.2.2.2.2.2.1) 1)))]] 0 1)),(a.2.1,(a.2.2.1,(a.2.2.2.1,(a.2.2.2.2.1,(a.2.2.2.2.2.1,((p.ar .add .i64 a.2.2.2.2.2.2.1 (1:Int)),()))))))))) (
 opt.need _ (p.eqN 0 0)<|
 opt.need _ (p.eqN (p.len a.1) (p.len a.1))<|
 opt.ret _ (Sum.inr (a.1,(a.2.1,(a.2.2.1,(a.2.2.2.1,(a.2.2.2.2.1,(a.2.2.2.2.2.1,())))))))))
def x8c (it:It) (p:Prim):(LD×(LD×(LD×(LD×T4))))→Option ((LD×(LD×(LD×(LD×T4))))⊕(LD×(LD×(LD×T2)))):=
 fun a=>opt.run _ (
 opt.ask _ (p.cmp .lss a.2.2.2.2.2.1 (p.ofNat (p.len a.2.2.2.1))) (
 opt.need _ (p.eqN 0 0)<|
 opt.need _ (p.eqN (p.len a.1) (p.len a.1))<|
 opt.bnd ((LD×(LD×(LD×(LD×T4))))) _ (
 it _ _ (x8f p) (a.1,(a.2.1,(a.2.2.1,(a.2.2.2.1,(a.2.2.2.2.1,(a.2.2.2.2.2.1,((0:Int),())))))))) fun b=>
 opt.need _ (p.eqN 0 0)<|
 opt.need _ (p.eqN (p.len b.1) (p.len b.1))<|
 opt.ret _ (Sum.inl (b.1,(b.2.1,(b.2.2.1,(b.2.2.2.1,(b.2.2.2.2.1,((p.ar .add .i64 b.2.2.2.2.2.1 (1:Int)),())))))))) (
 opt.need _ (p.eqN 0 0)<|
 opt.need _ (p.eqN (p.len a.1) (p.len a.1))<|
 opt.ret _ (Sum.inr (a.1,(a.2.1,(a.2.2.1,(a.2.2.2.2.1,())))))))
def w1t (it:It) (p:Prim):(LD×(LD×(LD×T2)))→Option ((LD×(LD×(LD×T2)))⊕(LD×Unit)):=
 fun a=>opt.run _ (
 opt.ask _ (p.cmp .lss a.2.2.2.1 (p.ofNat (p.len a.2.1))) (
 opt.bnd ((LD×(LD×(LD×T2)))) _ (
 it _ _ (x8c it p) ([],(a.1,(a.2.1,(a.2.2.1,(a.2.2.2.1,((0:Int),()))))))) fun b=>
 opt.need _ (p.leN (p.add 0 (p.len b.1)) (p.len b.1))<|
 opt.ret _ (Sum.inl (b.2.1,(b.2.2.1,((p.cut b.1 0 (p.len b.1)),((p.ar .add .i64 b.2.2.2.1 (1:Int)),())))))) (
 opt.ret _ (Sum.inr (a.2.2.1,()))))
def g45 (it:It):(p:Prim)→(LD×(LD×Unit))→Option ((LD×Unit)):=
 fun p x=>
 opt.bnd ((LD×Unit)) _ (
 it _ _ (w1t it p) (x.1,(x.2.1,(x.1,((0:Int),()))))) fun a=>
 opt.ret _ (a.1,())
def G45:=g45 it0
theorem ok45:CtrOk PG v4v (G45 std):=okF (a:=an45) (l:=la45) (gN) (by kernel_rfl) fun _ _=>by kernel_rfl
def v4o:Ctr:=
 ⟨75,[.list 2, .int .i64, .list 1, .int .i64],[],[(.ret,⟨[(0, .agg [.int .i64, .int .i64])],[],1⟩)]⟩
def la75:List LA:=
 [⟨75,[false,true,false,true,true],0,⟨⟨[(0, .list 2),(1, .int .i64),(2, .list 1),(3, .int .i64),(8, .bptr 0 0),(9, .bptr 1 0),(10, .int .i64)],[.box [.int .i64, .int .i64], .box [.int .i64, .int .i64]],52⟩,[((AX.exit 0),⟨[(8, .bptr 0 0),(9, .bptr 1 0)],[.box [.int .i64, .int .i64], .box [.int .i64, .int .i64]],52⟩)]⟩⟩]
def ja75:List JA:=
 [⟨75,[true,false,true,false,false,true,false,false,true,false,true,true],0,[(AX.normal,⟨[(0, .list 2),(1, .int .i64),(2, .list 1),(3, .int .i64),(8, .bptr 0 0),(9, .bptr 1 0),(10, .int .i64),(11, .int .i64)],[.box [.int .i64, .int .i64], .box [.int .i64, .int .i64]],52⟩)]⟩]
def v9c:List CF:=
 []
def an75:Anns:=
 ⟨v9c,ja75,[]⟩
def w1w (p:Prim):(Int×(Int×(Int×(Int×(LD×(Int×(LD×(Int×(Int×Unit)))))))))→Option ((Int×(Int×(Int×(Int×(LD×(Int×(LD×(Int×(Int×Unit)))))))))⊕(Int×(Int×(Int×(Int×Unit))))):=
 fun a=>opt.run _ (
 opt.ask _ (p.cmp .lss a.2.2.2.2.2.2.2.2.1 a.2.2.2.2.2.1) (
 opt.bnd T96 _ (
 opt.run T96 (
 opt.ask _ (p.cmp .gtr (p.ofNat (p.len a.2.2.2.2.2.2.1)) (0:Int)) (
 opt.need _ (p.cmp .neq (p.ofNat (p.len a.2.2.2.2.2.2.1)) (0:Int))<|
 opt.need _ (p.rowOk a.2.2.2.2.2.2.1 (p.nat (p.ar .rem .i64 (p.ar .add .i64 a.2.2.2.2.2.2.2.1 a.2.2.2.2.2.2.2.2.1) (p.ofNat (p.len a.2.2.2.2.2.2.1)))) [(CK.int .u8)])<|
 opt.need _ (p.cmp .geq (p.ar .rem .i64 (p.ar .add .i64 a.2.2.2.2.2.2.2.1 a.2.2.2.2.2.2.2.2.1) (p.ofNat (p.len a.2.2.2.2.2.2.1))) (0:Int))<|
 opt.need _ (p.cmp .neq (p.ofNat (p.len a.2.2.2.2.1)) (0:Int))<|
 opt.ret _ (a.1,(a.2.1,(a.2.2.1,(a.2.2.2.1,(a.2.2.2.2.1,(a.2.2.2.2.2.1,(a.2.2.2.2.2.2.1,(a.2.2.2.2.2.2.2.1,(a.2.2.2.2.2.2.2.2.1,((p.ar .rem .i64 (p.cvt .i64 (p.rdI a.2.2.2.2.2.2.1 (p.nat (p.ar .rem .i64 (p.ar .add .i64 a.2.2.2.2.2.2.2.1 a.2.2.2.2.2.2.2.2.1) (p.ofNat (p.len a.2.2.2.2.2.2.1)))) 0)) (p.ofNat (p.len a.2.2.2.2.1))),()))))))))))) (
 opt.ret _ (a.1,(a.2.1,(a.2.2.1,(a.2.2.2.1,(a.2.2.2.2.1,(a.2.2.2.2.2.1,(a.2.2.2.2.2.2.1,(a.2.2.2.2.2.2.2.1,(a.2.2.2.2.2.2.2.2.1,((0:Int),()))))))))))))) fun b=>
 opt.need _ (p.rowOk b.2.2.2.2.1 (p.nat b.2.2.2.2.2.2.2.2.2.1) [ci,ci])<|
 opt.need _ (p.cmp .geq b.2.2.2.2.2.2.2.2.2.1 (0:Int))<|
 opt.need _ (p.rowOk b.2.2.2.2.1 (p.nat b.2.2.2.2.2.2.2.2.2.1) [ci,ci])<|
 opt.need _ (p.cmp .geq b.2.2.2.2.2.2.2.2.2.1 (0:Int))<|
 opt.ret _ (Sum.inl (b.1,(b.2.1,((p.ar .add .i64 b.2.2.1 (p.rdI b.2.2.2.2.1 (p.nat b.2.2.2.2.2.2.2.2.2.1) 0)),((p.ar .add .i64 b.2.2.2.1 (p.rdI b.2.2.2.2.1 (p.nat b.2.2.2.2.2.2.2.2.2.1) 1)),(b.2.2.2.2.1,(b.2.2.2.2.2.1,(b.2.2.2.2.2.2.1,(b.2.2.2.2.2.2.2.1,((p.ar .add .i64 b.2.2.2.2.2.2.2.2.1 (1:Int)),()))))))))))) (
 opt.ret _ (Sum.inr (a.1,(a.2.1,(a.2.2.1,(a.2.2.2.1,())))))))
def g75 (it:It):(p:Prim)→(LD×(Int×(LD×(Int×Unit))))→Option T5:=
 fun p x=>
 opt.bnd T8 _ (
 it _ _ (w1w p) ((0:Int),((0:Int),((0:Int),((0:Int),(x.1,(x.2.1,(x.2.2.1,(x.2.2.2.1,((0:Int),())))))))))) fun a=>
 opt.ret _ (a.2.2.1,(a.2.2.2.1,()))
def G75:=g75 it0
theorem ok75:CtrOk PG v4o (G75 std):=okF (a:=an75) (l:=la75) (gN) (by kernel_rfl) fun _ _=>by kernel_rfl
def v42:Ctr:=
 ⟨33,[.agg [.list 2, .list 1], .int .u8, .list 1],[],[(.ret,⟨[(0, .agg [.int .i64, .int .i64, .int .i64])],[],1⟩)]⟩
def la33:List LA:=
 [⟨33,[false,true,false,true,true,true],0,⟨⟨[(2, .list 1),(3, .bptr 0 0),(6, .bptr 1 0),(7, .int .i64),(8, .bptr 2 0),(9, .int .i64)],[.box [.list 2, .list 1], .box [.int .i64, .int .i64, .int .i64], .box [.int .i64, .int .i64]],57⟩,[((AX.exit 0),⟨[(6, .bptr 0 0),(7, .int .i64),(8, .bptr 1 0)],[.box [.int .i64, .int .i64, .int .i64], .box [.int .i64, .int .i64]],57⟩)]⟩⟩]
def ja33:List JA:=
 []
def v92:List CF:=
 [⟨v4o,G75⟩]
def an33:Anns:=
 ⟨v92,ja33,[]⟩
def w41 (it:It) (p:Prim):(LD×(LD×T97))→Option ((LD×(LD×T97))⊕T58):=
 fun a=>opt.run _ (
 opt.ask _ (p.cmp .lss a.2.2.2.2.2.2.2.2.2.1 (p.ofNat (p.len a.2.1))) (
 opt.need _ (p.rowOk a.2.1 (p.nat a.2.2.2.2.2.2.2.2.2.1) [(CK.list 2)])<|
 opt.need _ (p.cmp .geq a.2.2.2.2.2.2.2.2.2.1 (0:Int))<|
 opt.bnd T5 _ (g75 it p ((p.rdL a.2.1 (p.nat a.2.2.2.2.2.2.2.2.2.1) 0),(a.2.2.2.2.2.2.2.2.1,(a.2.2.2.2.2.2.2.1,((p.ar .mul .i64 (p.ar .add .i64 a.2.2.2.2.2.2.2.2.2.1 (1:Int)) a.2.2.2.2.2.2.2.2.1),()))))) fun b=>
 opt.ret _ (Sum.inl (a.1,(a.2.1,(a.2.2.1,(a.2.2.2.1,(a.2.2.2.2.1,((p.ar .add .i64 a.2.2.2.2.2.1 b.1),((p.ar .add .i64 a.2.2.2.2.2.2.1 b.2.1),(a.2.2.2.2.2.2.2.1,(a.2.2.2.2.2.2.2.2.1,((p.ar .add .i64 a.2.2.2.2.2.2.2.2.2.1 (1:Int)),())))))))))))) (
 opt.ret _ (Sum.inr (a.2.2.1,(a.2.2.2.1,(a.2.2.2.2.1,(a.2.2.2.2.2.1,(a.2.2.2.2.2.2.1,(a.2.2.2.2.2.2.2.2.1,())))))))))
def g33 (it:It):(p:Prim)→(LD×(LD×(Int×(LD×Unit))))→Option T7:=
 fun p x=>
 opt.need _ (p.cmp .neq (20:Int) (0:Int))<|
 opt.bnd T5 _ (g75 it p (x.1,((p.ar .add .i64 (1:Int) (p.ar .rem .i64 (p.cvt .i64 x.2.2.1) (20:Int))),(x.2.2.2.1,((0:Int),()))))) fun a=>
 opt.bnd ((Int×(Int×(Int×(Int×(Int×(Int×Unit))))))) _ (
 it _ _ (w41 it p) (x.1,(x.2.1,((0:Int),((0:Int),((0:Int),(a.1,(a.2.1,(x.2.2.2.1,((p.ar .add .i64 (1:Int) (p.ar .rem .i64 (p.cvt .i64 x.2.2.1) (20:Int))),((0:Int),()))))))))))) fun b=>
 opt.ret _ (b.2.2.2.1,(b.2.2.2.2.1,(b.2.2.2.2.2.1,())))
def G33:=g33 it0
theorem ok33:CtrOk PG v42 (G33 std):=okF (a:=an33) (l:=la33) (gC ok75 (gN)) (by kernel_rfl) fun _ _=>by kernel_rfl
end Go.Am
end
noncomputable section
namespace Go.Am
def v5d:Ctr:=
 ⟨15,[],[],[(.ret,⟨[(0, .bool)],[],1⟩)]⟩
def la15:List LA:=
 []
def ja15:List JA:=
 [⟨15,[false,false,true,true,true,true,true,true,true,true,true,true,true,true],0,[(AX.normal,⟨[(1, .bptr 0 0),(3, .bptr 1 0),(4, .bptr 2 0),(5, .vec 3 2),(7, .bool),(9, .bptr 4 0),(15, .bptr 5 0),(17, .bptr 6 0),(19, .bptr 7 0),(21, .int .i64),(22, .int .i64),(127, .bool)],[.box [.full 8 2, .full 9 1], .box [.full 10 2, .nils], .box [.full 11 2, .nils], .row [ci,ci], .box [.int .i64, .int .i64], .box [.int .i64, .int .i64, .int .i64], .box [.int .i64, .int .i64, .int .i64], .box [.int .i64, .int .i64], .row [ci,ci], .row [(CK.list 2)], .row [ci,ci], .row [ci,ci]],170⟩)]⟩]
def u0e:List CF:=
 [⟨v4z,G38⟩,⟨v41,G36⟩,⟨v5b,G20⟩,⟨v48,G27⟩,⟨v49,G25⟩,⟨v40,G37⟩,⟨v43,G32⟩,⟨v4y,G39⟩,⟨v5a,G23⟩,⟨w9h,G21⟩,⟨w9j,G16⟩]
def an15:Anns:=
 ⟨u0e,ja15,[⟨15,[false,true,true],⟨[(1, .bptr 0 0),(2, .bptr 1 0),(3, .bptr 2 0),(4, .bptr 3 0)],[.box [.full 4 2, .full 5 1], .box [.full 6 2, .nils], .box [.full 7 2, .nils], .box [.full 8 2, .nils], .row [ci,ci], .row [(CK.list 2)], .row [ci,ci], .row [ci,ci], .row [ci,ci]],170⟩⟩]⟩
def g15 (it:It):(p:Prim)→Unit→Option T1:=
 fun p x=>
 opt.need _ (p.eqN 0 0)<|
 opt.need _ (p.eqN 3 (p.len k0k))<|
 opt.need _ (p.eqN 3 (p.len k0k))<|
 opt.need _ (p.eqN 0 0)<|
 opt.need _ (p.eqN 1 (p.len k1k))<|
 opt.need _ (p.eqN 1 (p.len k1k))<|
 opt.need _ (p.eqN 0 0)<|
 opt.need _ (p.eqN 1 (p.len [[k6k,k4k]]))<|
 opt.need _ (p.eqN 1 (p.len [[k6k,k4k]]))<|
 opt.need _ (p.eqN 0 0)<|
 opt.need _ (p.eqN 1 (p.len k2k))<|
 opt.need _ (p.eqN 1 (p.len k2k))<|
 opt.need _ (p.eqN 0 0)<|
 opt.need _ (p.eqN 1 (p.len k3k))<|
 opt.need _ (p.eqN 1 (p.len k3k))<|
 opt.need _ (p.and (p.and (p.leN (p.add 0 (p.len k0k)) (p.len k0k)) (p.and (p.leN (p.add 0 (p.len k1k)) (p.len k1k)) Bool.true)) Bool.true)<|
 opt.bnd ((LD×T2)) _ (g16 it p ((p.cut k0k 0 (p.len k0k)),((p.cut k1k 0 (p.len k1k)),()))) fun a=>
 opt.need _ (p.plain a.1)<|
 opt.need _ (p.and (p.and (p.leN (p.add 0 (p.len k0k)) (p.len k0k)) (p.and (p.leN (p.add 0 (p.len k1k)) (p.len k1k)) Bool.true)) (p.and Bool.true Bool.true))<|
 opt.bnd T17 _ (g21 it p ((p.cut k0k 0 (p.len k0k)),((p.cut k1k 0 (p.len k1k)),((3:Int),((2:Int),()))))) fun b=>
 opt.need _ (p.and (p.and (p.leN (p.add 0 (p.len k0k)) (p.len k0k)) (p.and (p.leN (p.add 0 (p.len k1k)) (p.len k1k)) Bool.true)) (p.and (p.leN (p.add 0 4) (p.len [[k4k,k4k],[k5k,k4k],[k5k,k5k],[k4k,k5k]])) Bool.true))<|
 opt.bnd T7 _ (g23 it p ((p.cut k0k 0 (p.len k0k)),((p.cut k1k 0 (p.len k1k)),((p.cut [[k4k,k4k],[k5k,k4k],[k5k,k5k],[k4k,k5k]] 0 4),())))) fun c=>
 opt.need _ (p.and (p.and (p.leN (p.add 0 (p.len k0k)) (p.len k0k)) (p.and (p.leN (p.add 0 (p.len k1k)) (p.len k1k)) Bool.true)) (p.and (p.and (p.leN (p.add 0 (p.len [[k6k,k4k]])) (p.len [[k6k,k4k]])) (p.and Bool.true Bool.true)) (p.and Bool.true Bool.true)))<|
 opt.bnd T0 _ (g39 it p ((p.cut k0k 0 (p.len k0k)),((p.cut k1k 0 (p.len k1k)),((p.cut [[k6k,k4k]] 0 (p.len [[k6k,k4k]])),([],((1:Int),((0:Int),((5:Int),())))))))) fun d=>
 opt.need _ (p.and (p.and (p.leN (p.add 0 (p.len k0k)) (p.len k0k)) (p.and (p.leN (p.add 0 (p.len k1k)) (p.len k1k)) Bool.true)) (p.and (p.and (p.leN (p.add 0 (p.len [[k6k,k4k]])) (p.len [[k6k,k4k]])) (p.and Bool.true Bool.true)) (p.and Bool.true Bool.true)))<|
 opt.bnd T0 _ (g39 it p ((p.cut k0k 0 (p.len k0k)),((p.cut k1k 0 (p.len k1k)),((p.cut [[k6k,k4k]] 0 (p.len [[k6k,k4k]])),([],((1:Int),((0:Int),((6:Int),())))))))) fun e=>
 opt.need _ (p.and (p.and (p.leN (p.add 0 (p.len k0k)) (p.len k0k)) (p.and (p.leN (p.add 0 (p.len k1k)) (p.len k1k)) Bool.true)) (p.and (p.and (p.leN (p.add 0 (p.len k3k)) (p.len k3k)) (p.and Bool.true Bool.true)) Bool.true))<|
 opt.bnd T8 _ (g32 it p ((p.cut k0k 0 (p.len k0k)),((p.cut k1k 0 (p.len k1k)),((p.cut k3k 0 (p.len k3k)),([],()))))) fun f=>
 opt.need _ (p.and (p.and (p.leN (p.add 0 (p.len k0k)) (p.len k0k)) (p.and (p.leN (p.add 0 (p.len k1k)) (p.len k1k)) Bool.true)) (p.and (p.and (p.leN (p.add 0 (p.len k2k)) (p.len k2k)) (p.and Bool.true Bool.true)) Bool.true))<|
 opt.bnd T8 _ (g32 it p ((p.cut k0k 0 (p.len k0k)),((p.cut k1k 0 (p.len k1k)),((p.cut k2k 0 (p.len k2k)),([],()))))) fun g=>
 opt.need _ (p.and (p.and (p.leN (p.add 0 (p.len k0k)) (p.len k0k)) (p.and (p.leN (p.add 0 (p.len k1k)) (p.len k1k)) Bool.true)) (p.and (p.and (p.leN (p.add 0 (p.len k3k)) (p.len k3k)) (p.and Bool.true Bool.true)) Bool.true))<|
 opt.bnd T8 _ (g37 it p ((p.cut k0k 0 (p.len k0k)),((p.cut k1k 0 (p.len k1k)),((p.cut k3k 0 (p.len k3k)),([],()))))) fun h=>
 opt.need _ (p.and (p.and (p.leN (p.add 0 (p.len k0k)) (p.len k0k)) (p.and (p.leN (p.add 0 (p.len k1k)) (p.len k1k)) Bool.true)) (p.and (p.and (p.leN (p.add 0 (p.len k2k)) (p.len k2k)) (p.and Bool.true Bool.true)) Bool.true))<|
 opt.bnd T7 _ (g25 it p ((p.cut k0k 0 (p.len k0k)),((p.cut k1k 0 (p.len k1k)),((p.cut k2k 0 (p.len k2k)),([],()))))) fun i=>
 opt.need _ (p.and (bif (bif (p.leN (p.add 0 (p.len k0k)) (p.len k0k)) then (bif (p.leN (p.add 0 (p.len k1k)) (p.len k1k)) then Bool.true else Bool.false) else Bool.false) then (bif (bif (p.leN (p.add 0 (p.len k2k)) (p.len k2k)) then Bool.true else Bool.false) then (bif (bif (p.leN (p.add 0 (p.len k3k)) (p.len k3k)) then Bool.true else Bool.false) then Bool.true else Bool.false) else Bool.false) else Bool.false) Bool.true)<|
 opt.bnd T7 _ (g27 it p ([[(D.list Bool.false 2 (p.cut k0k 0 (p.len k0k))),(D.list Bool.false 1 (p.cut k1k 0 (p.len k1k)))],[(D.list Bool.false 2 (p.cut k2k 0 (p.len k2k))),(D.list Bool.true 0 [])],[(D.list Bool.false 2 (p.cut k3k 0 (p.len k3k))),(D.list Bool.true 0 [])]],())) fun j=>
 opt.bnd ((LD×(LD×(LD×(LD×(LD×T98)))))) _ (
 opt.run ((LD×(LD×(LD×(LD×(LD×T98)))))) (
 opt.ask _ (p.cmp .neq a.2.1 (0:Int)) (
 opt.need _ (p.eqN 0 0)<|
 opt.need _ (p.eqN (p.len k0k) (p.len k0k))<|
 opt.need _ (p.eqN (p.len k0k) (p.len k0k))<|
 opt.need _ (p.eqN 0 0)<|
 opt.need _ (p.eqN (p.len k1k) (p.len k1k))<|
 opt.need _ (p.eqN (p.len k1k) (p.len k1k))<|
 opt.need _ (p.eqN 0 0)<|
 opt.need _ (p.eqN (p.len k2k) (p.len k2k))<|
 opt.need _ (p.eqN (p.len k2k) (p.len k2k))<|
 opt.need _ (p.eqN 0 0)<|
 opt.need _ (p.eqN (p.len k3k) (p.len k3k))<|
 opt.need _ (p.eqN (p.len k3k) (p.len k3k))<|
 opt.need _ (p.eqN 0 0)<|
 opt.need _ (p.eqN (p.len a.1) (p.len a.1))<|
 opt.ret _ (a.1,(k0k,(k1k,(k2k,(k3k,(c.1,(c.2.1,(g.1,(g.2.1,(g.2.2.1,(h.1,(h.2.1,(h.2.2.1,(i.1,(i.2.1,(b.1,(j.1,(j.2.1,(Bool.true,())))))))))))))))))))) (
 opt.ask _ (p.cmp .neq b.2.1 (0:Int)) (
 opt.need _ (p.eqN 0 0)<|
 opt.need _ (p.eqN (p.len k0k) (p.len k0k))<|
 opt.need _ (p.eqN (p.len k0k) (p.len k0k))<|
 opt.need _ (p.eqN 0 0)<|
 opt.need _ (p.eqN (p.len k1k) (p.len k1k))<|
 opt.need _ (p.eqN (p.len k1k) (p.len k1k))<|
 opt.need _ (p.eqN 0 0)<|
 opt.need _ (p.eqN (p.len k2k) (p.len k2k))<|
 opt.need _ (p.eqN (p.len k2k) (p.len k2k))<|
 opt.need _ (p.eqN 0 0)<|
 opt.need _ (p.eqN (p.len k3k) (p.len k3k))<|
 opt.need _ (p.eqN (p.len k3k) (p.len k3k))<|
 opt.need _ (p.eqN 0 0)<|
 opt.need _ (p.eqN (p.len a.1) (p.len a.1))<|
 opt.ret _ (a.1,(k0k,(k1k,(k2k,(k3k,(c.1,(c.2.1,(g.1,(g.2.1,(g.2.2.1,(h.1,(h.2.1,(h.2.2.1,(i.1,(i.2.1,(b.1,(j.1,(j.2.1,(Bool.true,())))))))))))))))))))) (
 opt.ask _ (p.cmp .neq c.2.2.1 (0:Int)) (
 opt.need _ (p.eqN 0 0)<|
 opt.need _ (p.eqN (p.len k0k) (p.len k0k))<|
 opt.need _ (p.eqN (p.len k0k) (p.len k0k))<|
 opt.need _ (p.eqN 0 0)<|
 opt.need _ (p.eqN (p.len k1k) (p.len k1k))<|
 opt.need _ (p.eqN (p.len k1k) (p.len k1k))<|
 opt.need _ (p.eqN 0 0)<|
 opt.need _ (p.eqN (p.len k2k) (p.len k2k))<|
 opt.need _ (p.eqN (p.len k2k) (p.len k2k))<|
 opt.need _ (p.eqN 0 0)<|
 opt.need _ (p.eqN (p.len k3k) (p.len k3k))<|
 opt.need _ (p.eqN (p.len k3k) (p.len k3k))<|
 opt.need _ (p.eqN 0 0)<|
 opt.need _ (p.eqN (p.len a.1) (p.len a.1))<|
 opt.ret _ (a.1,(k0k,(k1k,(k2k,(k3k,(c.1,(c.2.1,(g.1,(g.2.1,(g.2.2.1,(h.1,(h.2.1,(h.2.2.1,(i.1,(i.2.1,(b.1,(j.1,(j.2.1,(Bool.true,())))))))))))))))))))) (
 opt.ask _ (p.cmp .neq d.1 (0:Int)) (
 opt.need _ (p.eqN 0 0)<|
 opt.need _ (p.eqN (p.len k0k) (p.len k0k))<|
 opt.need _ (p.eqN (p.len k0k) (p.len k0k))<|
 opt.need _ (p.eqN 0 0)<|
 opt.need _ (p.eqN (p.len k1k) (p.len k1k))<|
 opt.need _ (p.eqN (p.len k1k) (p.len k1k))<|
 opt.need _ (p.eqN 0 0)<|
 opt.need _ (p.eqN (p.len k2k) (p.len k2k))<|
 opt.need _ (p.eqN (p.len k2k) (p.len k2k))<|
 opt.need _ (p.eqN 0 0)<|
 opt.need _ (p.eqN (p.len k3k) (p.len k3k))<|
 opt.need _ (p.eqN (p.len k3k) (p.len k3k))<|
 opt.need _ (p.eqN 0 0)<|
 opt.need _ (p.eqN (p.len a.1) (p.len a.1))<|
 opt.ret _ (a.1,(k0k,(k1k,(k2k,(k3k,(c.1,(c.2.1,(g.1,(g.2.1,(g.2.2.1,(h.1,(h.2.1,(h.2.2.1,(i.1,(i.2.1,(b.1,(j.1,(j.2.1,(Bool.true,())))))))))))))))))))) (
 opt.ask _ (p.cmp .neq e.1 (14:Int)) (
 opt.need _ (p.eqN 0 0)<|
 opt.need _ (p.eqN (p.len k0k) (p.len k0k))<|
 opt.need _ (p.eqN (p.len k0k) (p.len k0k))<|
 opt.need _ (p.eqN 0 0)<|
 opt.need _ (p.eqN (p.len k1k) (p.len k1k))<|
 opt.need _ (p.eqN (p.len k1k) (p.len k1k))<|
 opt.need _ (p.eqN 0 0)<|
 opt.need _ (p.eqN (p.len k2k) (p.len k2k))<|
 opt.need _ (p.eqN (p.len k2k) (p.len k2k))<|
 opt.need _ (p.eqN 0 0)<|
 opt.need _ (p.eqN (p.len k3k) (p.len k3k))<|
 opt.need _ (p.eqN (p.len k3k) (p.len k3k))<|
 opt.need _ (p.eqN 0 0)<|
 opt.need _ (p.eqN (p.len a.1) (p.len a.1))<|
 opt.ret _ (a.1,(k0k,(k1k,(k2k,(k3k,(c.1,(c.2.1,(g.1,(g.2.1,(g.2.2.1,(h.1,(h.2.1,(h.2.2.1,(i.1,(i.2.1,(b.1,(j.1,(j.2.1,(Bool.true,())))))))))))))))))))) (
 opt.ask _ (p.cmp .neq f.2.2.2.1 (21:Int)) (
 opt.need _ (p.eqN 0 0)<|
 opt.need _ (p.eqN (p.len k0k) (p.len k0k))<|
 opt.need _ (p.eqN (p.len k0k) (p.len k0k))<|
 opt.need _ (p.eqN 0 0)<|
 opt.need _ (p.eqN (p.len k1k) (p.len k1k))<|
 opt.need _ (p.eqN (p.len k1k) (p.len k1k))<|
 opt.need _ (p.eqN 0 0)<|
 opt.need _ (p.eqN (p.len k2k) (p.len k2k))<|
 opt.need _ (p.eqN (p.len k2k) (p.len k2k))<|
 opt.need _ (p.eqN 0 0)<|
 opt.need _ (p.eqN (p.len k3k) (p.len k3k))<|
 opt.need _ (p.eqN (p.len k3k) (p.len k3k))<|
 opt.need _ (p.eqN 0 0)<|
 opt.need _ (p.eqN (p.len a.1) (p.len a.1))<|
 opt.ret _ (a.1,(k0k,(k1k,(k2k,(k3k,(c.1,(c.2.1,(g.1,(g.2.1,(g.2.2.1,(h.1,(h.2.1,(h.2.2.1,(i.1,(i.2.1,(b.1,(j.1,(j.2.1,(Bool.true,())))))))))))))))))))) (
 opt.ask _ (p.cmp .neq g.2.2.2.1 (0:Int)) (
 opt.need _ (p.eqN 0 0)<|
 opt.need _ (p.eqN (p.len k0k) (p.len k0k))<|
 opt.need _ (p.eqN (p.len k0k) (p.len k0k))<|
 opt.need _ (p.eqN 0 0)<|
 opt.need _ (p.eqN (p.len k1k) (p.len k1k))<|
 opt.need _ (p.eqN (p.len k1k) (p.len k1k))<|
 opt.need _ (p.eqN 0 0)<|
 opt.need _ (p.eqN (p.len k2k) (p.len k2k))<|
 opt.need _ (p.eqN (p.len k2k) (p.len k2k))<|
 opt.need _ (p.eqN 0 0)<|
 opt.need _ (p.eqN (p.len k3k) (p.len k3k))<|
 opt.need _ (p.eqN (p.len k3k) (p.len k3k))<|
 opt.need _ (p.eqN 0 0)<|
 opt.need _ (p.eqN (p.len a.1) (p.len a.1))<|
 opt.ret _ (a.1,(k0k,(k1k,(k2k,(k3k,(c.1,(c.2.1,(g.1,(g.2.1,(g.2.2.1,(h.1,(h.2.1,(h.2.2.1,(i.1,(i.2.1,(b.1,(j.1,(j.2.1,(Bool.true,())))))))))))))))))))) (
 opt.ask _ (p.cmp .neq h.2.2.2.1 (0:Int)) (
 opt.need _ (p.eqN 0 0)<|
 opt.need _ (p.eqN (p.len k0k) (p.len k0k))<|
 opt.need _ (p.eqN (p.len k0k) (p.len k0k))<|
 opt.need _ (p.eqN 0 0)<|
 opt.need _ (p.eqN (p.len k1k) (p.len k1k))<|
 opt.need _ (p.eqN (p.len k1k) (p.len k1k))<|
 opt.need _ (p.eqN 0 0)<|
 opt.need _ (p.eqN (p.len k2k) (p.len k2k))<|
 opt.need _ (p.eqN (p.len k2k) (p.len k2k))<|
 opt.need _ (p.eqN 0 0)<|
 opt.need _ (p.eqN (p.len k3k) (p.len k3k))<|
 opt.need _ (p.eqN (p.len k3k) (p.len k3k))<|
 opt.need _ (p.eqN 0 0)<|
 opt.need _ (p.eqN (p.len a.1) (p.len a.1))<|
 opt.ret _ (a.1,(k0k,(k1k,(k2k,(k3k,(c.1,(c.2.1,(g.1,(g.2.1,(g.2.2.1,(h.1,(h.2.1,(h.2.2.1,(i.1,(i.2.1,(b.1,(j.1,(j.2.1,(Bool.true,())))))))))))))))))))) (
 opt.ask _ (p.cmp .neq i.2.2.1 (0:Int)) (
 opt.need _ (p.eqN 0 0)<|
 opt.need _ (p.eqN (p.len k0k) (p.len k0k))<|
 opt.need _ (p.eqN (p.len k0k) (p.len k0k))<|
 opt.need _ (p.eqN 0 0)<|
 opt.need _ (p.eqN (p.len k1k) (p.len k1k))<|
 opt.need _ (p.eqN (p.len k1k) (p.len k1k))<|
 opt.need _ (p.eqN 0 0)<|
 opt.need _ (p.eqN (p.len k2k) (p.len k2k))<|
 opt.need _ (p.eqN (p.len k2k) (p.len k2k))<|
 opt.need _ (p.eqN 0 0)<|
 opt.need _ (p.eqN (p.len k3k) (p.len k3k))<|
 opt.need _ (p.eqN (p.len k3k) (p.len k3k))<|
 opt.need _ (p.eqN 0 0)<|
 opt.need _ (p.eqN (p.len a.1) (p.len a.1))<|
 opt.ret _ (a.1,(k0k,(k1k,(k2k,(k3k,(c.1,(c.2.1,(g.1,(g.2.1,(g.2.2.1,(h.1,(h.2.1,(h.2.2.1,(i.1,(i.2.1,(b.1,(j.1,(j.2.1,(Bool.true,())))))))))))))))))))) (
 opt.need _ (p.eqN 0 0)<|
 opt.need _ (p.eqN (p.len k0k) (p.len k0k))<|
 opt.need _ (p.eqN (p.len k0k) (p.len k0k))<|
 opt.need _ (p.eqN 0 0)<|
 opt.need _ (p.eqN (p.len k1k) (p.len k1k))<|
 opt.need _ (p.eqN (p.len k1k) (p.len k1k))<|
 opt.need _ (p.eqN 0 0)<|
 opt.need _ (p.eqN (p.len k2k) (p.len k2k))<|
 opt.need _ (p.eqN (p.len k2k) (p.len k2k))<|
 opt.need _ (p.eqN 0 0)<|
 opt.need _ (p.eqN (p.len k3k) (p.len k3k))<|
 opt.need _ (p.eqN (p.len k3k) (p.len k3k))<|
 opt.need _ (p.eqN 0 0)<|
 opt.need _ (p.eqN (p.len a.1) (p.len a.1))<|
 opt.ret _ (a.1,(k0k,(k1k,(k2k,(k3k,(c.1,(c.2.1,(g.1,(g.2.1,(g.2.2.1,(h.1,(h.2.1,(h.2.2.1,(i.1,(i.2.1,(b.1,(j.1,(j.2.1,((p.cmp .neq j.2.2.1 (0:Int)),())))))))))))))))))))))))))))))) fun k=>
 opt.ask _ k.2.2.2.2.2.2.2.2.2.2.2.2.2.2.2.2.2.2.1 (
 opt.ret _ (Bool.false,())) (
 opt.need _ (p.and (p.leN (p.add 0 (p.len k.1)) (p.len k.1)) (p.and (p.leN (p.add 0 4) (p.len [[k4k,k4k],[(D.int .i64 (5:Int)),k4k],[(D.int .i64 (1:Int)),k5k],[k4k,k5k]])) Bool.true))<|
 opt.bnd T1 _ (g20 it p ((p.cut k.1 0 (p.len k.1)),((p.cut [[k4k,k4k],[(D.int .i64 (5:Int)),k4k],[(D.int .i64 (1:Int)),k5k],[k4k,k5k]] 0 4),()))) fun l=>
 opt.ask _ l.1 (
 opt.ask _ k.2.2.2.2.2.2.2.2.2.2.2.2.2.2.2.1 (
 opt.ask _ (bif (p.cmp .eql k.2.2.2.2.2.1 (5:Int)) then (bif (p.cmp .eql k.2.2.2.2.2.2.1 (0:Int)) then Bool.true else Bool.false) else Bool.false) (
 opt.need _ (p.and (p.and (p.leN (p.add 0 (p.len k.2.1)) (p.len k.2.1)) (p.and (p.leN (p.add 0 (p.len k.2.2.1)) (p.len k.2.2.1)) Bool.true)) (p.and (p.and (p.leN (p.add 0 (p.len k.2.2.2.1)) (p.len k.2.2.2.1)) (p.and Bool.true Bool.true)) (p.and Bool.true Bool.true)))<|
 opt.bnd T0 _ (g36 it p ((p.cut k.2.1 0 (p.len k.2.1)),((p.cut k.2.2.1 0 (p.len k.2.2.1)),((p.cut k.2.2.2.1 0 (p.len k.2.2.2.1)),([],(k.2.2.2.2.2.2.2.1,(k.2.2.2.2.2.2.2.2.1,(k.2.2.2.2.2.2.2.2.2.1,())))))))) fun m=>
 opt.ask _ (p.cmp .eql m.1 (0:Int)) (
 opt.need _ (p.and (p.and (p.leN (p.add 0 (p.len k.2.1)) (p.len k.2.1)) (p.and (p.leN (p.add 0 (p.len k.2.2.1)) (p.len k.2.2.1)) Bool.true)) (p.and (p.and (p.leN (p.add 0 (p.len k.2.2.2.2.1)) (p.len k.2.2.2.2.1)) (p.and Bool.true Bool.true)) (p.and Bool.true Bool.true)))<|
 opt.bnd T0 _ (g38 it p ((p.cut k.2.1 0 (p.len k.2.1)),((p.cut k.2.2.1 0 (p.len k.2.2.1)),((p.cut k.2.2.2.2.1 0 (p.len k.2.2.2.2.1)),([],(k.2.2.2.2.2.2.2.2.2.2.1,(k.2.2.2.2.2.2.2.2.2.2.2.1,(k.2.2.2.2.2.2.2.2.2.2.2.2.1,())))))))) fun n=>
 opt.ask _ (p.cmp .eql n.1 (0:Int)) (
 opt.ask _ (bif (p.cmp .eql k.2.2.2.2.2.2.2.2.2.2.2.2.2.1 (1:Int)) then (bif (p.cmp .eql k.2.2.2.2.2.2.2.2.2.2.2.2.2.2.1 (2:Int)) then Bool.true else Bool.false) else Bool.false) (
 opt.ask _ (p.cmp .eql k.2.2.2.2.2.2.2.2.2.2.2.2.2.2.2.2.1 (0:Int)) (
 opt.ret _ ((p.cmp .eql k.2.2.2.2.2.2.2.2.2.2.2.2.2.2.2.2.2.1 (2:Int)),())) (
 opt.ret _ (Bool.false,()))) (
 opt.ret _ (Bool.false,()))) (
 opt.ret _ (Bool.false,()))) (
 opt.ret _ (Bool.false,()))) (
 opt.ret _ (Bool.false,()))) (
 opt.ret _ (Bool.false,()))) (
 opt.ret _ (Bool.false,())))
def G15:=g15 it0
theorem ok15:CtrOk PG v5d (G15 std):=okF (a:=an15) (l:=la15) (gC ok38 (gC ok36 (gC ok20 (gC ok27 (gC ok25 (gC ok37 (gC ok32 (gC ok39 (gC ok23 (gC u2a (gC u2c (gN)))))))))))) (by kernel_rfl) fun _ _=>by kernel_rfl
end Go.Am
end
section
namespace Go.Am
theorem v78 {i j:It} (h:i.Le j):∀ s,le (v3x i std s) (v3x j std s):=fun _=>z04 (h _ _ _ _ _ (fun _=>le_refl _)) (fun _=>le_refl _) (fun _=>le_refl _)
theorem mg87 {i j:It} (h:i.Le j):∀ s,le (g87 i std s) (g87 j std s):=fun _=>z0d (le_refl _) (fun _=>z0d (le_refl _) (fun _=>z0a (z0d (v78 h _) (fun _=>le_refl _))))
theorem v13 {i j:It} (h:i.Le j):∀ s,le (y9p i std s) (y9p j std s):=fun _=>z07 (z0l (z0a (z0a (z0d (h _ _ _ _ _ (fun _=>le_refl _)) (fun _=>le_refl _)))) (le_refl _))
theorem u2d {i j:It} (h:i.Le j):∀ s,le (g99 i std s) (g99 j std s):=fun _=>z0d (h _ _ _ _ _ (v13 h)) (fun _=>le_refl _)
theorem v0r {i j:It} (h:i.Le j):∀ s,le (g53 i std s) (g53 j std s):=fun _=>z04 (h _ _ _ _ _ (fun _=>le_refl _)) (fun _=>le_refl _) (fun _=>le_refl _)
theorem v0p {i j:It} (h:i.Le j):∀ s,le (g60 i std s) (g60 j std s):=fun _=>z0a (z0a (z0a (z0a (z0d (h _ _ _ _ _ (fun _=>le_refl _)) (fun _=>le_refl _)))))
theorem mg20 {i j:It} (h:i.Le j):∀ s,le (g20 i std s) (g20 j std s):=fun _=>z0l (le_refl _) (z04 (h _ _ _ _ _ (fun _=>le_refl _)) (fun _=>le_refl _) (fun _=>le_refl _))
theorem v2v {i j:It} (h:i.Le j):∀ s,le (x8e i std s) (x8e j std s):=fun _=>z07 (z0l (z0a (z0a (z0d (v0r h _) (fun _=>le_refl _)))) (le_refl _))
theorem mg18 {i j:It} (h:i.Le j):∀ s,le (g18 i std s) (g18 j std s):=fun _=>z0d (z07 (z0d (le_refl _) (fun _=>z0l (le_refl _) (z0l (le_refl _) (z04 (h _ _ _ _ _ (fun _=>le_refl _)) (fun _=>le_refl _) (fun _=>le_refl _)))))) (fun _=>z0l (le_refl _) (z0d (z07 (z0d (v0r h _) (fun _=>z0l (le_refl _) (z04 (h _ _ _ _ _ (v2v h)) (fun _=>le_refl _) (fun _=>le_refl _))))) (fun _=>le_refl _)))
theorem v68 {i j:It} (h:i.Le j):∀ s,le (g57 i std s) (g57 j std s):=fun _=>z0l (le_refl _) (z04 (z07 (z04 (h _ _ _ _ _ (fun _=>le_refl _)) (fun _=>le_refl _) (fun _=>le_refl _))) (fun _=>le_refl _) (fun _=>le_refl _))
theorem v14 {i j:It} (h:i.Le j):∀ s,le (w9n i std s) (w9n j std s):=fun _=>z07 (z0l (z0a (z0a (z0d (le_refl _) (fun _=>z0d (h _ _ _ _ _ (fun _=>le_refl _)) (fun _=>le_refl _))))) (le_refl _))
theorem u2e {i j:It} (h:i.Le j):∀ s,le (g93 i std s) (g93 j std s):=fun _=>z0d (h _ _ _ _ _ (v14 h)) (fun _=>le_refl _)
theorem u2h {i j:It} (h:i.Le j):∀ s,le (g65 i std s) (g65 j std s):=fun _=>z0a (z0d (u2e h _) (fun _=>le_refl _))
theorem mg76 {i j:It} (h:i.Le j):∀ s,le (g76 i std s) (g76 j std s):=fun _=>z0d (le_refl _) (fun _=>z0d (le_refl _) (fun _=>z0l (le_refl _) (z0a (z0d (u2e h _) (fun _=>le_refl _)))))
theorem mg68 {i j:It} (h:i.Le j):∀ s,le (g68 i std s) (g68 j std s):=fun _=>z0d (le_refl _) (fun _=>z0l (le_refl _) (z0d (u2h h _) (fun _=>le_refl _)))
theorem u2g {i j:It} (h:i.Le j):∀ s,le (g78 i std s) (g78 j std s):=fun _=>z0a (z0d (h _ _ _ _ _ (fun _=>le_refl _)) (fun _=>le_refl _))
theorem mg92 {i j:It} (h:i.Le j):∀ s,le (g92 i std s) (g92 j std s):=fun _=>z0d (u2g h _) (fun _=>z0d (u2g h _) (fun _=>le_refl _))
theorem v18 {i j:It} (h:i.Le j):∀ s,le (w9o i std s) (w9o j std s):=fun _=>z07 (z0l (z0a (z0a (z0d (mg92 h _) (fun _=>le_refl _)))) (le_refl _))
theorem v19 {i j:It} (h:i.Le j):∀ s,le (w9p i std s) (w9p j std s):=fun _=>z07 (z0l (z0a (z0a (z0d (z07 (z0a (z0a (z0a (z0a (z0a (z04 (h _ _ _ _ _ (fun _=>le_refl _)) (fun _=>le_refl _) (fun _=>le_refl _)))))))) (fun _=>le_refl _)))) (le_refl _))
theorem v2a {i j:It} (h:i.Le j):∀ s,le (w9q i std s) (w9q j std s):=fun _=>z07 (z0l (z0a (z0a (z0a (z0a (z0d (h _ _ _ _ _ (fun _=>le_refl _)) (fun _=>le_refl _)))))) (le_refl _))
theorem v73 {i j:It} (h:i.Le j):∀ s,le (g63 i std s) (g63 j std s):=fun _=>z0d (h _ _ _ _ _ (v2a h)) (fun _=>z0a (z0a (z0a (z0a (z0a (z0d (h _ _ _ _ _ (v19 h)) (fun _=>z0a (z0a (z0d (h _ _ _ _ _ (v18 h)) (fun _=>le_refl _))))))))))
theorem w3e {i j:It} (h:i.Le j):∀ s,le (z65 i std s) (z65 j std s):=fun _=>z07 (z0l (z0a (z0a (z0a (z0a (z0d (mg87 h _) (fun _=>le_refl _)))))) (le_refl _))
theorem w3f {i j:It} (h:i.Le j):∀ s,le (z9b i std s) (z9b j std s):=fun _=>z07 (z0l (z0a (z0a (z0a (z0d (h _ _ _ _ _ (w3e h)) (fun _=>le_refl _))))) (le_refl _))
theorem v10 {i j:It} (h:i.Le j):∀ s,le (w0c i std s) (w0c j std s):=fun _=>z0a (z0a (z0a (z0d (h _ _ _ _ _ (w3f h)) (fun _=>le_refl _))))
theorem w3h {i j:It} (h:i.Le j):∀ s,le (y5u i std s) (y5u j std s):=fun _=>z07 (z0l (z0a (z0a (z0a (z0d (v10 h _) (fun _=>le_refl _))))) (le_refl _))
theorem v12 {i j:It} (h:i.Le j):∀ s,le (w0e i std s) (w0e j std s):=fun _=>z0a (z0a (z0a (z0d (h _ _ _ _ _ (w3h h)) (fun _=>le_refl _))))
theorem v1y {i j:It} (h:i.Le j):∀ s,le (w0a i std s) (w0a j std s):=fun _=>z0d (le_refl _) (fun _=>z0a (z0a (z0a (z0d (v12 h _) (fun _=>le_refl _)))))
theorem w3d {i j:It} (h:i.Le j):∀ s,le (z9a i std s) (z9a j std s):=fun _=>z07 (z0l (z0a (z0a (z0d (h _ _ _ _ _ (fun _=>le_refl _)) (fun _=>le_refl _)))) (le_refl _))
theorem v1z {i j:It} (h:i.Le j):∀ s,le (w0b i std s) (w0b j std s):=fun _=>z0a (z0a (z0d (h _ _ _ _ _ (w3d h)) (fun _=>le_refl _)))
theorem w3g {i j:It} (h:i.Le j):∀ s,le (y5t i std s) (y5t j std s):=fun _=>z07 (z0l (z0a (z0a (z0d (v1z h _) (fun _=>le_refl _)))) (le_refl _))
theorem v11 {i j:It} (h:i.Le j):∀ s,le (w0d i std s) (w0d j std s):=fun _=>z0a (z0a (z0d (h _ _ _ _ _ (w3g h)) (fun _=>le_refl _)))
theorem v1x {i j:It} (h:i.Le j):∀ s,le (x7m i std s) (x7m j std s):=fun _=>z0d (le_refl _) (fun _=>z0a (z0a (z0d (v11 h _) (fun _=>le_refl _))))
theorem v72 {i j:It} (h:i.Le j):∀ s,le (v3v i std s) (v3v j std s):=fun _=>x92 (v1y h _) (le_refl _)
theorem v71 {i j:It} (h:i.Le j):∀ s,le (v3u i std s) (v3u j std s):=fun _=>x92 (v1x h _) (le_refl _)
theorem v15 {i j:It} (h:i.Le j):∀ s,le (x8b i std s) (x8b j std s):=fun _=>z07 (z0l (z0a (z0a (z0d (h _ _ _ _ _ (fun _=>le_refl _)) (fun _=>le_refl _)))) (le_refl _))
theorem u2f {i j:It} (h:i.Le j):∀ s,le (g88 i std s) (g88 j std s):=fun _=>z0d (h _ _ _ _ _ (v15 h)) (fun _=>le_refl _)
theorem w7z {i j:It} (h:i.Le j):∀ s,le (y28 i std s) (y28 j std s):=fun _=>z07 (z0l (z0a (z0a (z0a (z0a (z0l (z0a (z0d (h _ _ _ _ _ (fun _=>le_refl _)) (fun _=>le_refl _))) (le_refl _)))))) (le_refl _))
theorem v79 {i j:It} (h:i.Le j):∀ s,le (w8s i std s) (w8s j std s):=fun _=>z0l (le_refl _) (z04 (h _ _ _ _ _ (w7z h)) (fun _=>le_refl _) (fun _=>le_refl _))
theorem mg86 {i j:It} (h:i.Le j):∀ s,le (g86 i std s) (g86 j std s):=fun _=>z0a (z0a (z0a (z0a (z0a (z0d (v72 h _) (fun _=>z0d (v79 h _) (fun _=>le_refl _)))))))
theorem mg89 {i j:It} (h:i.Le j):∀ s,le (g89 i std s) (g89 j std s):=fun _=>z0d (h _ _ _ _ _ (fun _=>le_refl _)) (fun _=>le_refl _)
theorem v0q {i j:It} (h:i.Le j):∀ s,le (g59 i std s) (g59 j std s):=fun _=>z0d (mg86 h _) (fun _=>z0l (le_refl _) (z0a (z0d (u2f h _) (fun _=>z0a (z0d (mg89 h _) (fun _=>z0a (z0d (u2f h _) (fun _=>le_refl _))))))))
theorem v16 {i j:It} (h:i.Le j):∀ s,le (x2c i std s) (x2c j std s):=fun _=>z07 (z0l (z0d (z07 (z0a (z0a (z0a (z0d (u2d h _) (fun _=>le_refl _)))))) (fun _=>le_refl _)) (le_refl _))
theorem v17 {i j:It} (h:i.Le j):∀ s,le (y3m i std s) (y3m j std s):=fun _=>z07 (z0l (z0a (z0a (z0d (z07 (z0a (z0a (z0a (z0a (z0a (z04 (h _ _ _ _ _ (fun _=>le_refl _)) (fun _=>le_refl _) (fun _=>le_refl _)))))))) (fun _=>le_refl _)))) (le_refl _))
theorem mg80 {i j:It} (h:i.Le j):∀ s,le (g80 i std s) (g80 j std s):=fun _=>z0a (z0a (z0a (z0d (h _ _ _ _ _ (v17 h)) (fun _=>z0a (z0a (z0d (v71 h _) (fun _=>z0a (z0a (z0a (z0d (u2d h _) (fun _=>z0a (z0a (z0a (z0a (z0a (z0d (h _ _ _ _ _ (v16 h)) (fun _=>le_refl _)))))))))))))))))
theorem v2f {i j:It} (h:i.Le j):∀ s,le (x4f i std s) (x4f j std s):=fun _=>z07 (z0l (z0a (z0a (z0d (v0p h _) (fun _=>z0d (v0q h _) (fun _=>z0d (mg80 h _) (fun _=>le_refl _)))))) (le_refl _))
theorem w7y {i j:It} (h:i.Le j):∀ s,le (g48 i std s) (g48 j std s):=fun _=>z0d (mg18 h _) (fun _=>z0l (le_refl _) (z0d (v0p h _) (fun _=>z0d (v0q h _) (fun _=>z0d (h _ _ _ _ _ (v2f h)) (fun _=>le_refl _)))))
theorem mg16 {i j:It} (h:i.Le j):∀ s,le (g16 i std s) (g16 j std s):=fun _=>z04 (w7y h _) (fun _=>le_refl _) (fun _=>z0d (le_refl _) (fun _=>z0l (le_refl _) (z0d (h _ _ _ _ _ (fun _=>le_refl _)) (fun _=>le_refl _))))
theorem v67 {i j:It} (h:i.Le j):∀ s,le (g62 i std s) (g62 j std s):=fun _=>z04 (w7y h _) (fun _=>z0l (le_refl _) (z04 (w7y h _) (fun _=>le_refl _) (fun _=>le_refl _))) (fun _=>z0d (le_refl _) (fun _=>z0l (le_refl _) (z04 (w7y h _) (fun _=>le_refl _) (fun _=>le_refl _))))
theorem mg21 {i j:It} (h:i.Le j):∀ s,le (g21 i std s) (g21 j std s):=fun _=>z04 (w7y h _) (fun _=>z0l (le_refl _) (z0a (z0d (v0r h _) (fun _=>le_refl _)))) (fun _=>z0d (le_refl _) (fun _=>z0l (le_refl _) (z0a (z0d (v0r h _) (fun _=>z0l (le_refl _) (z0d (v68 h _) (fun _=>le_refl _)))))))
theorem v2s {i j:It} (h:i.Le j):∀ s,le (w97 i std s) (w97 j std s):=fun _=>z07 (z0l (z0a (z0a (z0d (v68 h _) (fun _=>le_refl _)))) (le_refl _))
theorem v2t {i j:It} (h:i.Le j):∀ s,le (w98 i std s) (w98 j std s):=fun _=>z07 (z0l (z0a (z0a (z0d (v68 h _) (fun _=>le_refl _)))) (le_refl _))
theorem mg23 {i j:It} (h:i.Le j):∀ s,le (g23 i std s) (g23 j std s):=fun _=>z04 (w7y h _) (fun _=>z04 (z07 (z0l (le_refl _) (z0d (le_refl _) (fun _=>z04 (z07 (z0l (le_refl _) (z0d (v0r h _) (fun _=>le_refl _)))) (fun _=>le_refl _) (fun _=>le_refl _))))) (fun _=>le_refl _) (fun _=>z04 (le_refl _) (fun _=>z0d (v0p h _) (fun _=>z0d (v0q h _) (fun _=>le_refl _))) (fun _=>z0d (le_refl _) (fun _=>z0d (v0p h _) (fun _=>z0d (v0q h _) (fun _=>z04 (h _ _ _ _ _ (v2t h)) (fun _=>le_refl _) (fun _=>le_refl _))))))) (fun _=>z0d (le_refl _) (fun _=>z04 (z07 (z0l (le_refl _) (z0d (le_refl _) (fun _=>z04 (z07 (z0l (le_refl _) (z0d (v0r h _) (fun _=>le_refl _)))) (fun _=>le_refl _) (fun _=>le_refl _))))) (fun _=>le_refl _) (fun _=>z04 (le_refl _) (fun _=>z0d (v0p h _) (fun _=>z0d (v0q h _) (fun _=>le_refl _))) (fun _=>z0d (le_refl _) (fun _=>z0d (v0p h _) (fun _=>z0d (v0q h _) (fun _=>z04 (h _ _ _ _ _ (v2s h)) (fun _=>le_refl _) (fun _=>le_refl _))))))))
theorem u2l {i j:It} (h:i.Le j):∀ s,le (g32 i std s) (g32 j std s):=fun _=>z04 (v67 h _) (fun _=>le_refl _) (fun _=>z04 (le_refl _) (fun _=>le_refl _) (fun _=>z04 (le_refl _) (fun _=>le_refl _) (fun _=>z0d (le_refl _) (fun _=>z0l (le_refl _) (z0d (v73 h _) (fun _=>le_refl _))))))
theorem v2k {i j:It} (h:i.Le j):∀ s,le (w9z i std s) (w9z j std s):=fun _=>z07 (z0l (z0a (z0a (z04 (h _ _ _ _ _ (fun _=>le_refl _)) (fun _=>le_refl _) (fun _=>le_refl _)))) (le_refl _))
theorem v2l {i j:It} (h:i.Le j):∀ s,le (w90 i std s) (w90 j std s):=fun _=>z07 (z0l (z0a (z0a (z0d (v73 h _) (fun _=>le_refl _)))) (le_refl _))
theorem v2m {i j:It} (h:i.Le j):∀ s,le (w91 i std s) (w91 j std s):=fun _=>z07 (z0l (z0a (z0a (z0a (z0a (z0a (z0a (z0a (z0d (h _ _ _ _ _ (v2l h)) (fun _=>le_refl _))))))))) (le_refl _))
theorem v2n {i j:It} (h:i.Le j):∀ s,le (w92 i std s) (w92 j std s):=fun _=>z07 (z0l (z04 (z07 (z0a (z0a (z04 (w7y h _) (fun _=>le_refl _) (fun _=>le_refl _))))) (fun _=>le_refl _) (fun _=>le_refl _)) (le_refl _))
theorem mg27 {i j:It} (h:i.Le j):∀ s,le (g27 i std s) (g27 j std s):=fun _=>z0l (le_refl _) (z04 (h _ _ _ _ _ (v2n h)) (fun _=>le_refl _) (fun _=>z0d (le_refl _) (fun _=>z0a (z0a (z0a (z0a (z0d (h _ _ _ _ _ (v2m h)) (fun _=>z0a (z0a (z04 (h _ _ _ _ _ (v2k h)) (fun _=>le_refl _) (fun _=>le_refl _)))))))))))
theorem w7x {i j:It} (h:i.Le j):∀ s,le (v0u i std s) (v0u j std s):=fun _=>z0a (z0d (h _ _ _ _ _ (fun _=>le_refl _)) (fun _=>le_refl _))
theorem u2k {i j:It} (h:i.Le j):∀ s,le (g39 i std s) (g39 j std s):=fun _=>z04 (v67 h _) (fun _=>le_refl _) (fun _=>z04 (le_refl _) (fun _=>le_refl _) (fun _=>z04 (le_refl _) (fun _=>z04 (z07 (z0l (le_refl _) (z0l (le_refl _) (z0d (le_refl _) (fun _=>z0d (le_refl _) (fun _=>z0l (le_refl _) (z0d (le_refl _) (fun _=>z0l (le_refl _) (z0l (le_refl _) (z04 (z07 (z0l (le_refl _) (z0d (w7x h _) (fun _=>le_refl _)))) (fun _=>le_refl _) (fun _=>le_refl _))))))))))) (fun _=>le_refl _) (fun _=>le_refl _)) (fun _=>z0d (le_refl _) (fun _=>z04 (z07 (z0l (le_refl _) (z0l (le_refl _) (z0d (le_refl _) (fun _=>z0d (le_refl _) (fun _=>z0l (le_refl _) (z0d (le_refl _) (fun _=>z0l (le_refl _) (z0l (le_refl _) (z04 (z07 (z0l (le_refl _) (z0d (w7x h _) (fun _=>z0l (le_refl _) (z0d (w7x h _) (fun _=>le_refl _)))))) (fun _=>le_refl _) (fun _=>le_refl _))))))))))) (fun _=>le_refl _) (fun _=>le_refl _)))))
theorem v2g {i j:It} (h:i.Le j):∀ s,le (w9v i std s) (w9v j std s):=fun _=>z07 (z0l (z0a (z0a (z0a (z0a (z0a (z0l (le_refl _) (z0d (mg76 h _) (fun _=>le_refl _)))))))) (le_refl _))
theorem v2h {i j:It} (h:i.Le j):∀ s,le (w9w i std s) (w9w j std s):=fun _=>z07 (z0l (z0a (z0a (z0a (z0a (z0a (z0l (le_refl _) (z04 (z07 (z04 (h _ _ _ _ _ (v2g h)) (fun _=>le_refl _) (fun _=>le_refl _))) (fun _=>le_refl _) (fun _=>le_refl _)))))))) (le_refl _))
theorem v2i {i j:It} (h:i.Le j):∀ s,le (w9x i std s) (w9x j std s):=fun _=>z07 (z0l (z0a (z0a (z0d (v68 h _) (fun _=>le_refl _)))) (le_refl _))
theorem v2j {i j:It} (h:i.Le j):∀ s,le (w9y i std s) (w9y j std s):=fun _=>z07 (z0l (z0d (le_refl _) (fun _=>z04 (h _ _ _ _ _ (v2i h)) (fun _=>le_refl _) (fun _=>le_refl _))) (le_refl _))
theorem mg37 {i j:It} (h:i.Le j):∀ s,le (g37 i std s) (g37 j std s):=fun _=>z04 (v67 h _) (fun _=>le_refl _) (fun _=>z04 (le_refl _) (fun _=>le_refl _) (fun _=>z04 (le_refl _) (fun _=>le_refl _) (fun _=>z0d (le_refl _) (fun _=>z0l (le_refl _) (z04 (h _ _ _ _ _ (v2j h)) (fun _=>le_refl _) (fun _=>z0d (le_refl _) (fun _=>z04 (z07 (z04 (h _ _ _ _ _ (v2h h)) (fun _=>le_refl _) (fun _=>le_refl _))) (fun _=>le_refl _) (fun _=>le_refl _))))))))
theorem mg69 {i j:It} (h:i.Le j):∀ s,le (g69 i std s) (g69 j std s):=fun _=>z0l (le_refl _) (z0a (z0a (z0d (h _ _ _ _ _ (fun _=>le_refl _)) (fun _=>le_refl _))))
theorem v2o {i j:It} (h:i.Le j):∀ s,le (w93 i std s) (w93 j std s):=fun _=>z07 (z0l (z0a (z0a (z0a (z0a (z0a (z0l (le_refl _) (z0d (mg68 h _) (fun _=>le_refl _)))))))) (le_refl _))
theorem v2p {i j:It} (h:i.Le j):∀ s,le (w94 i std s) (w94 j std s):=fun _=>z07 (z0l (z0a (z0a (z0d (u2h h _) (fun _=>le_refl _)))) (le_refl _))
theorem v2q {i j:It} (h:i.Le j):∀ s,le (w95 i std s) (w95 j std s):=fun _=>z07 (z0l (z0a (z0a (z0d (h _ _ _ _ _ (v2p h)) (fun _=>z0d (z07 (z04 (h _ _ _ _ _ (v2o h)) (fun _=>le_refl _) (fun _=>le_refl _))) (fun _=>le_refl _))))) (le_refl _))
theorem v2r {i j:It} (h:i.Le j):∀ s,le (w96 i std s) (w96 j std s):=fun _=>z07 (z0l (z0d (le_refl _) (fun _=>z0d (h _ _ _ _ _ (v2q h)) (fun _=>le_refl _))) (le_refl _))
theorem mg25 {i j:It} (h:i.Le j):∀ s,le (g25 i std s) (g25 j std s):=fun _=>z04 (v67 h _) (fun _=>le_refl _) (fun _=>z04 (le_refl _) (fun _=>le_refl _) (fun _=>z04 (le_refl _) (fun _=>le_refl _) (fun _=>z0d (le_refl _) (fun _=>z0l (le_refl _) (z0d (v73 h _) (fun _=>z0l (le_refl _) (z0a (z0d (h _ _ _ _ _ (v2r h)) (fun _=>z0d (mg69 h _) (fun _=>le_refl _))))))))))
theorem u2i {i j:It} (h:i.Le j):∀ s,le (g56 i std s) (g56 j std s):=fun _=>z04 (h _ _ _ _ _ (fun _=>le_refl _)) (fun _=>le_refl _) (fun _=>le_refl _)
theorem v2b {i j:It} (h:i.Le j):∀ s,le (w9r i std s) (w9r j std s):=fun _=>z07 (z0a (z0a (z0d (h _ _ _ _ _ (fun _=>le_refl _)) (fun _=>le_refl _))))
theorem v74 {i j:It} (h:i.Le j):∀ s,le (g61 i std s) (g61 j std s):=fun _=>z0a (z0d (h _ _ _ _ _ (fun _=>le_refl _)) (fun _=>z0a (z0d (h _ _ _ _ _ (v2b h)) (fun _=>le_refl _))))
theorem v2u {i j:It} (h:i.Le j):∀ s,le (x8d i std s) (x8d j std s):=fun _=>z07 (z0l (z0a (z0a (z0d (u2i h _) (fun _=>le_refl _)))) (le_refl _))
theorem v75 {i j:It} (h:i.Le j):∀ s,le (g19 i std s) (g19 j std s):=fun _=>z0d (le_refl _) (fun _=>z0l (le_refl _) (z04 (h _ _ _ _ _ (fun _=>le_refl _)) (fun _=>le_refl _) (fun _=>z0d (le_refl _) (fun _=>z0d (u2i h _) (fun _=>z0l (le_refl _) (z04 (h _ _ _ _ _ (v2u h)) (fun _=>le_refl _) (fun _=>le_refl _)))))))
theorem u2j {i j:It} (h:i.Le j):∀ s,le (g43 i std s) (g43 j std s):=fun _=>z04 (h _ _ _ _ _ (fun _=>le_refl _)) (fun _=>le_refl _) (fun _=>le_refl _)
theorem v2c {i j:It} (h:i.Le j):∀ s,le (w9s i std s) (w9s j std s):=fun _=>z07 (z0l (z0a (z0a (z0a (z0a (z0a (z0d (h _ _ _ _ _ (fun _=>le_refl _)) (fun _=>le_refl _))))))) (le_refl _))
theorem v2d {i j:It} (h:i.Le j):∀ s,le (w9t i std s) (w9t j std s):=fun _=>z07 (z0l (z0a (z0a (z0a (z0d (h _ _ _ _ _ (v2c h)) (fun _=>le_refl _))))) (le_refl _))
theorem v2e {i j:It} (h:i.Le j):∀ s,le (w9u i std s) (w9u j std s):=fun _=>z07 (z0l (z0a (z0a (z0d (v74 h _) (fun _=>z0a (z0a (z0a (z0d (h _ _ _ _ _ (v2d h)) (fun _=>z0d (v74 h _) (fun _=>le_refl _))))))))) (le_refl _))
theorem v69 {i j:It} (h:i.Le j):∀ s,le (g49 i std s) (g49 j std s):=fun _=>z0d (v74 h _) (fun _=>z0d (h _ _ _ _ _ (v2e h)) (fun _=>le_refl _))
theorem v65 {i j:It} (h:i.Le j):∀ s,le (g72 i std s) (g72 j std s):=fun _=>z0d (v75 h _) (fun _=>z0l (z0d (v75 h _) (fun _=>le_refl _)) (z0d (v75 h _) (fun _=>le_refl _)))
theorem mg36 {i j:It} (h:i.Le j):∀ s,le (g36 i std s) (g36 j std s):=fun _=>z0d (v65 h _) (fun _=>z0l (z0d (v65 h _) (fun _=>le_refl _)) (z0d (le_refl _) (fun _=>z0l (le_refl _) (z0d (v69 h _) (fun _=>z0d (v69 h _) (fun _=>z04 (h _ _ _ _ _ (fun _=>le_refl _)) (fun _=>le_refl _) (fun _=>z0d (le_refl _) (fun _=>z04 (h _ _ _ _ _ (fun _=>le_refl _)) (fun _=>le_refl _) (fun _=>le_refl _)))))))))
theorem mg38 {i j:It} (h:i.Le j):∀ s,le (g38 i std s) (g38 j std s):=fun _=>z0d (v65 h _) (fun _=>z0l (z0d (v65 h _) (fun _=>le_refl _)) (z0d (le_refl _) (fun _=>z0l (le_refl _) (z0d (v69 h _) (fun _=>z0d (u2j h _) (fun _=>z0l (le_refl _) (z0d (v69 h _) (fun _=>z0d (u2j h _) (fun _=>le_refl _)))))))))
theorem mg15 {i j:It} (h:i.Le j):∀ s,le (g15 i std s) (g15 j std s):=fun _=>z0a (z0a (z0a (z0a (z0a (z0a (z0a (z0a (z0a (z0a (z0a (z0a (z0a (z0a (z0a (z0a (z0d (mg16 h _) (fun _=>z0a (z0a (z0d (mg21 h _) (fun _=>z0a (z0d (mg23 h _) (fun _=>z0a (z0d (u2k h _) (fun _=>z0a (z0d (u2k h _) (fun _=>z0a (z0d (u2l h _) (fun _=>z0a (z0d (u2l h _) (fun _=>z0a (z0d (mg37 h _) (fun _=>z0a (z0d (mg25 h _) (fun _=>z0a (z0d (mg27 h _) (fun _=>z0d (le_refl _) (fun _=>z0l (le_refl _) (z0a (z0d (mg20 h _) (fun _=>z0l (z0l (z0l (z0a (z0d (mg36 h _) (fun _=>z0l (z0a (z0d (mg38 h _) (fun _=>le_refl _))) (le_refl _)))) (le_refl _)) (le_refl _)) (le_refl _)))))))))))))))))))))))))))))))))))))))))
end Go.Am
end
section
namespace Go.Am
theorem v3w:g15 (itN 200) std ()=some (true,()):=by kernel_rfl
theorem z4k:G15 std ()=some (true,()):=mg15 (v3m 200) () _ v3w
end Go.Am
end
section
namespace Go.Am
open M06
def x1q (l:List Pt) (hs:List (List Pt)):Prop:=¬ y1f l hs∧y1q l hs=0
instance (l:List Pt) (hs:List (List Pt)):Decidable (x1q l hs):=by unfold x1q; infer_instance
theorem x1p {l:List Pt} {hs:List (List Pt)}:x1q l hs↔z6k l hs:=by
 unfold x1q
 rw [z3q]
 refine ⟨fun h=>h.2,fun h=>⟨?_,h⟩⟩
 rintro (k|k|⟨x,hx,k⟩)
 ·have:=h.many.2; omega
 ·have:=h.few; omega
 ·have:=(h.manyH x hx).2; omega
instance (l:List Pt) (hs:List (List Pt)):Decidable (z6k l hs):=decidable_of_iff _ x1p
theorem w6y (l:List Pt) (hs:List (List Pt)):G29 std (z0b l,z0y hs,())=some (decide (z6k l hs),()):=by
 unfold G29
 have h14:u0f it0 std (z0b l,z0y hs,())=some (decide (y1f l hs),()):=v6i l hs
 have h19:g19 it0 std (z0b l,z0y hs,())=some (y1q l hs,()):=v6g l hs
 have e:decide (z6k l hs)=decide (x1q l hs):=by rw [decide_eq_decide]; exact x1p.symm
 rw [e]
 by_cases hg:y1f l hs
 ·have:¬ x1q l hs:=fun h=>h.1 hg
  simp only [g29,z01,z02,h14,hg,this]
 ·by_cases hc:y1q l hs=0
  ·have:x1q l hs:=⟨hg,hc⟩
   simp only [g29,z01,z02,h14,h19,hg,hc,this]
  ·have:¬ x1q l hs:=fun h=>hc h.2
   simp only [g29,z01,z02,h14,h19,hg,hc,this]
theorem w5m {l:List Pt} {hs:List (List Pt)} (h:y1q l hs≠0) (m:List Pt) (ks:List (List Pt)):G62 std (z0b l,z0y hs,z0b m,z0y ks,())=some (.inl (y1q l hs,())):=by
 unfold G62
 have h48:g48 it0 std (z0b l,z0y hs,())=_:=y90 h
 simp only [g62,z01,z02,h48,h,not_false_eq_true]
theorem w5l {l:List Pt} {hs:List (List Pt)} (hf:z6k l hs) {m:List Pt} {ks:List (List Pt)} (h:y1q m ks≠0):
  G62 std (z0b l,z0y hs,z0b m,z0y ks,())=some (.inr (.inr (.inl (z0b l,z0y hs,z0b (z3t (z1j l hs)),y1q m ks,())))):=by
 unfold G62
 have h48:g48 it0 std (z0b l,z0y hs,())=_:=x2o hf
 have h48':g48 it0 std (z0b m,z0y ks,())=_:=y90 h
 simp only [g62,z01,z02,h48,h48',not_true]
theorem v6a {l:List Pt} {hs:List (List Pt)} (hf:z6k l hs) {m:List Pt} {ks:List (List Pt)} (hk:z6k m ks):
  G62 std (z0b l,z0y hs,z0b m,z0y ks,())=some (.inr (.inr (.inr (z0b l,z0y hs,z0b (z3t (z1j l hs)),z0b m,z0y ks,z0b (z3t (z1j m ks)),0,())))):=by
 unfold G62
 have h48:g48 it0 std (z0b l,z0y hs,())=_:=x2o hf
 have h48':g48 it0 std (z0b m,z0y ks,())=_:=x2o hk
 simp only [g62,z01,z02,h48,h48',not_true]
instance (p:Pt):Decidable (Big p):=by unfold Big; infer_instance
noncomputable def x4h (l:List Pt) (hs:List (List Pt)) (m:List Pt) (ks:List (List Pt)) (p:Pt) (den:Int):Int:=
 if y1q l hs≠0 then y1q l hs else if y1q m ks≠0 then y1q m ks else if ¬ (1≤den∧den≤268435456∧Big p) then 2 else
  if inC (z3t (z1j l hs)) p den=true∧inC (z3t (z1j m ks)) p den=true then 0 else 14
theorem y2g (p:Pt):[[D.int IntKind.i64 p.1,D.int IntKind.i64 p.2]]=z0b [p]:=rfl
theorem z9p (p:Pt):(z0b [p]).take 1=z0b [p]:=rfl
theorem z6k.cbox' {l:List Pt} {hs:List (List Pt)} (h:z6k l hs):∀ p∈z3t (z1j l hs),z0s (-10000) 10000 p:=fun p hp=>by
 obtain ⟨h1,h2,h3,h4⟩:=h.cbox p hp
 exact ⟨by omega,by omega,by omega,by omega⟩
theorem x6i {l:List Pt} {hs:List (List Pt)} (hf:z6k l hs) {p:Pt} (hb:Big p) {den:Int} (h1:1≤den) (h2:den≤268435456):
  g57 it0 std (z0b (z3t (z1j l hs)),p.1,p.2,den,())=some (inC (z3t (z1j l hs)) p den,()):=w6v hf.cyc hf.cbox' (by have:=z9v hf; omega) hb h1 h2
theorem v0i (p:Pt):g53 it0 std (-1099511627776,1099511627776,z0b [p],())=some (decide (Big p),()):=by
 have h53:g53 it0 std (-1099511627776,1099511627776,z0b [p],())=some (decide (∀ x∈[p],z0s (-1099511627776) 1099511627776 x),()):=x6k _ _ [p] (by simp)
 rw [h53]; congr 2; rw [decide_eq_decide]; simp [Big]
end Go.Am
end
section
namespace M06
def v52 (a b:List Pt) (w:Pt):Prop:=∀ p∈a,∀ q∈b,dt w p<dt w q
end M06
end
section
namespace Go.Am
open M06
def v3n (A B C:Int):Prop:=¬ (A=0∧B=0)∧ -1048576≤A∧A≤1048576∧ -1048576≤B∧B≤1048576∧ -1099511627776≤C∧C≤1099511627776
instance (A B C:Int):Decidable (v3n A B C):=by unfold v3n; infer_instance
def okL (a b:List Pt) (A B C:Int):Prop:=(∀ p∈a,dt (A,B) p≤C)∧∀ q∈b,C<dt (A,B) q
instance (a b:List Pt) (A B C:Int):Decidable (okL a b A B C):=by unfold okL; infer_instance
end Go.Am
end
section
namespace Go.Am
open M06
def v56 (P e Q f:Pt):Prop:=
 (0<crs e f∧0≤crs (sb Q P) f∧crs (sb Q P) f≤crs e f∧0≤crs (sb Q P) e∧crs (sb Q P) e≤crs e f)∨
 (0< - crs e f∧0≤ - crs (sb Q P) f∧ - crs (sb Q P) f≤ - crs e f∧0≤ - crs (sb Q P) e∧ - crs (sb Q P) e≤ - crs e f)
instance (P e Q f:Pt):Decidable (v56 P e Q f):=by unfold v56; infer_instance
end Go.Am
end
section
namespace Go.Am
open M06
def fr (n d:Nat):Pt:=(((n / Nat.gcd n d:Nat):Int),((d / Nat.gcd n d:Nat):Int))
end Go.Am
end
section
namespace Go.Am
open M06
def Frc (x:Pt):Prop:=∃ n d:Nat,0<d∧n≤1152921504606846976∧d<1125899906842624∧x=fr n d
theorem Frc.nat {x:Pt} (h:Frc x):∃ n d:Nat,0<d∧n≤1152921504606846976∧d<1125899906842624∧x=((n:Int),(d:Int)):=by
 obtain ⟨n,d,h1,h2,h3,rfl⟩:=h
 have hg:=Nat.gcd_pos_of_pos_right n h1
 have h4:=Nat.div_pos (Nat.le_of_dvd h1 (Nat.gcd_dvd_right n d)) hg
 have h5:=Nat.div_le_self n (Nat.gcd n d)
 have h6:=Nat.div_le_self d (Nat.gcd n d)
 exact ⟨n / Nat.gcd n d,d / Nat.gcd n d,h4,by omega,by omega,rfl⟩
theorem Frc.den {x:Pt} (h:Frc x):0<x.2:=by
 obtain ⟨n,d,h1,_,_,rfl⟩:=h.nat
 simp only; omega
end Go.Am
end
section
namespace Go.Am
open M06
theorem v7f {a b:Int} (h:(0≤a∧a≤b)∨(b≤a∧a≤0)):a*a≤b*b:=by
 rcases h with ⟨h1,h2⟩|⟨h1,h2⟩
 ·exact Int.mul_le_mul h2 h2 h1 (by omega)
 ·have:=Int.mul_le_mul (a:= -a) (b:= -a) (c:= -b) (d:= -b) (by omega) (by omega) (by omega) (by omega)
  rw [Int.neg_mul_neg,Int.neg_mul_neg] at this; exact this
theorem w0q (a b:Pt):far a b=dt (sb b a) (sb b a):=by simp only [far,dt,sb]; grind
end Go.Am
end
section
namespace Go.Am
open M06
theorem face_nx {S:List Pt} {d a b:Pt} (h:y91 S d a b) (hne:a≠b) (hd:d≠(0,0)):Nx S a b:=by
 have hdd:=z1e hd
 have hb:=(h.on b h.inb h.par).1
 have hpos:0<dt d (sb b a):=by
  rcases Int.lt_or_le 0 (dt d (sb b a)) with k|k
  ·exact k
  ·exact absurd (z2h.1 (y5v hd h.par (by omega))).symm hne
 have hs:z68 d (sb b a):=⟨h.par,hpos⟩
 refine ⟨h.inb,hne,fun x hx=>?_⟩
 obtain ⟨m1,m2⟩:=hs.mul (sb x a)
 have hl:=h.left x hx
 refine ⟨?_,fun h0=>?_⟩
 ·show 0≤crs (sb b a) (sb x a)
  have:=Int.mul_nonneg (Int.le_of_lt hpos) hl
  rw [←m1] at this
  rcases Int.lt_or_le (crs (sb b a) (sb x a)) 0 with k|k
  ·have:=Int.mul_pos hdd (show 0< - crs (sb b a) (sb x a) by omega)
   rw [Int.mul_neg] at this; omega
  ·exact k
 ·have h0':crs (sb b a) (sb x a)=0:=h0
  rw [h0',Int.mul_zero] at m1
  have hz:crs d (sb x a)=0:=by
   rcases Int.mul_eq_zero.1 m1.symm with k|k
   ·omega
   ·exact k
  obtain ⟨o1,o2⟩:=h.on x hx hz
  refine ⟨?_,?_⟩
  ·have:=Int.mul_nonneg (Int.le_of_lt hpos) o1
   rw [←m2] at this
   rcases Int.lt_or_le (dt (sb b a) (sb x a)) 0 with k|k
   ·have:=Int.mul_pos hdd (show 0< - dt (sb b a) (sb x a) by omega)
    rw [Int.mul_neg] at this; omega
   ·exact k
  ·rw [w0q,w0q]
   have l1:=lag d (sb x a)
   have l2:=lag d (sb b a)
   rw [hz] at l1
   rw [h.par] at l2
   have e:dt d (sb b x)=dt d (sb b a) - dt d (sb x a):=by simp only [dt,sb]; grind
   have:=v7f (.inl ⟨o1,show dt d (sb x a)≤dt d (sb b a) by omega⟩)
   have:dt d d*dt (sb x a) (sb x a)≤dt d d*dt (sb b a) (sb b a):=by omega
   exact Int.le_of_mul_le_mul_left this hdd
end Go.Am
end
section
namespace Go.Am
section
variable {κ ν:Type} [DecidableEq κ]
end
structure v57 (κ ν:Type) where
 ke:κ→D
 ve:ν→D
 ks:List SK
 ka:Bool
 va:Bool
 ck:List CK
structure v57.Ok {κ ν:Type} [DecidableEq κ] (E:v57 κ ν):Prop where
 agg:∀ k,z10 (E.ke k)=E.ka
 kinds:∀ k,z1n E.ks (z06 (E.ke k))=true
 eq:∀ a b,z8e E.ks (z06 (E.ke a)) (z06 (E.ke b))=some (decide (a=b))
 vagg:∀ v,z10 (E.ve v)=E.va
 vok:∀ v,z3m E.ck (z06 (E.ve v))=true
def v57.enc {κ ν:Type} (E:v57 κ ν) (m:List (κ×ν)):List (D×D):=m.map fun e=>(E.ke e.1,E.ve e.2)
section
variable {κ ν:Type} [DecidableEq κ] {E:v57 κ ν} (h:E.Ok)
include h
end
end Go.Am
end
section
namespace Go.Am
open M06
noncomputable def x5q (l:List Pt) (hs:List (List Pt)) (p:Pt):Bool×Int:=
 if y1q l hs≠0 then (false,y1q l hs) else if ¬ Big p then (false,3) else (inC (z3t (z1j l hs)) p 1,0)
theorem v6f (l:List Pt) (hs:List (List Pt)) (p:Pt):G21 std (z0b l,z0y hs,p.1,p.2,())=some ((x5q l hs p).1,(x5q l hs p).2,()):=by
 unfold G21 x5q
 have h53:g53 it0 std (-1099511627776,1099511627776,z0b [p],())=some (decide (∀ x∈[p],z0s (-1099511627776) 1099511627776 x),()):=x6k _ _ [p] (by simp)
 have e1:decide (∀ x∈[p],z0s (-1099511627776) 1099511627776 x)=decide (Big p):=by
  rw [decide_eq_decide]; simp [Big]
 rw [e1] at h53
 by_cases h:y1q l hs=0
 ·have hf:=z3q.1 h
  have h48:g48 it0 std (z0b l,z0y hs,())=_:=x2o hf
  by_cases hb:Big p
  ·have h57:g57 it0 std (z0b (z3t (z1j l hs)),p.1,p.2,1,())=_:=w6v hf.cyc hf.cbox' (by have:=z9v hf; omega) hb (by omega) (by omega)
   simp only [g21,z01,z02,h48,h,not_true,List.drop_zero,List.take_succ_cons,List.take_zero,y2g,z9p,h53,hb,h57,Nat.le_refl,z0e,ne_eq]
  ·simp only [g21,z01,z02,h48,h,not_true,List.drop_zero,List.take_succ_cons,List.take_zero,y2g,z9p,h53,hb,Nat.le_refl,z0e,ne_eq,not_false_eq_true]
 ·have h48:g48 it0 std (z0b l,z0y hs,())=_:=y90 h
  simp only [g21,z01,z02,h48,h,not_false_eq_true,ne_eq]
end Go.Am
end
section
namespace Go.Am
open M06
theorem w6x (l:List Pt) (hs:List (List Pt)) (m:List Pt) (ks:List (List Pt)) (p:Pt) (den:Int):
  G40 std (z0b l,z0y hs,z0b m,z0y ks,p.1,p.2,den,())=some (x4h l hs m ks p den,()):=by
 unfold G40 x4h
 by_cases h:y1q l hs=0
 case neg=>
  have h62:g62 it0 std (z0b l,z0y hs,z0b m,z0y ks,())=_:=w5m h m ks
  simp only [g40,z01,z02,h62,h,not_false_eq_true,ne_eq]
 have hf:=z3q.1 h
 by_cases h':y1q m ks=0
 case neg=>
  have h62:g62 it0 std (z0b l,z0y hs,z0b m,z0y ks,())=_:=w5l hf h'
  simp only [g40,z01,z02,h62,h,h',not_false_eq_true,ne_eq,not_true]
 have hk:=z3q.1 h'
 have h62:g62 it0 std (z0b l,z0y hs,z0b m,z0y ks,())=_:=v6a hf hk
 by_cases d1:den<1
 ·have:¬ (1≤den∧den≤268435456∧Big p):=fun h=>by omega
  simp only [g40,z01,z02,h62,h,h',d1,this,not_false_eq_true,ne_eq,not_true]
 by_cases d2:den>268435456
 ·have:¬ (1≤den∧den≤268435456∧Big p):=fun h=>by omega
  simp only [g40,z01,z02,h62,h,h',d1,d2,this,not_false_eq_true,ne_eq,not_true]
 have h53:=v0i p
 by_cases hb:Big p
 case neg=>
  have:¬ (1≤den∧den≤268435456∧Big p):=fun h=>hb h.2.2
  simp only [g40,z01,z02,h62,h,h',d1,d2,this,List.drop_zero,List.take_succ_cons,List.take_zero,y2g,z9p,h53,hb,Nat.le_refl,z0e,not_false_eq_true,ne_eq,not_true,and_false]
 have hden:1≤den∧den≤268435456∧Big p:=⟨by omega,by omega,hb⟩
 have i1:=x6i hf hb (den:=den) (by omega) (by omega)
 have i2:=x6i hk hb (den:=den) (by omega) (by omega)
 by_cases k1:inC (z3t (z1j l hs)) p den=true
 ·by_cases k2:inC (z3t (z1j m ks)) p den=true
  ·simp only [g40,z01,z02,h62,h,h',d1,d2,hden,List.drop_zero,List.take_succ_cons,List.take_zero,y2g,z9p,h53,hb,Nat.le_refl,z0e,i1,i2,k1,k2,not_false_eq_true,ne_eq,not_true,and_self]
  ·have k2':inC (z3t (z1j m ks)) p den=false:=by simpa using k2
   simp only [g40,z01,z02,h62,h,h',d1,d2,hden,List.drop_zero,List.take_succ_cons,List.take_zero,y2g,z9p,h53,hb,Nat.le_refl,z0e,i1,i2,k1,k2',not_false_eq_true,ne_eq,not_true,and_self,and_false]
 ·have k1':inC (z3t (z1j l hs)) p den=false:=by simpa using k1
  simp only [g40,z01,z02,h62,h,h',d1,d2,hden,List.drop_zero,List.take_succ_cons,List.take_zero,y2g,z9p,h53,hb,Nat.le_refl,z0e,i1,i2,k1',not_false_eq_true,ne_eq,not_true,false_and,and_self,Bool.false_eq_true]
end Go.Am
end
section
namespace Go.Am
open M06
theorem z1l (l:List Int):(y1j l).length=l.length:=by simp [y1j]
theorem w0x {l:List Int} {i:Nat} {n:Int} (h:l[i]?=some n):(y1j l)[i]?=some (eB n):=by simp [y1j,h]
theorem w4y (n:Int):z3m [CK.int IntKind.u8] (eB n)=true:=rfl
theorem u0k (n:Int):dI ((eB n)[0]?.getD D.nilp)=n:=rfl
theorem y77 {n:Int} (h:(Lit.int IntKind.u8 n).wf=true):0≤n∧n≤255:=by
 have h:IntKind.u8.min≤n∧n≤IntKind.u8.max:=by simpa [Lit.wf] using h
 have e1:IntKind.u8.min=0:=rfl
 have e2:IntKind.u8.max=255:=rfl
 omega
theorem w6s {l:List Pt} (hl:l≠[]) (hll:l.length≤1000) (hb:∀ x∈l,z0s (-1000) 1000 x) {n:Nat} (hn:n≤20) {bs:List Int} (hbs:∀ b∈bs,(Lit.int IntKind.u8 b).wf=true) (hbl:bs.length≤1000) {at':Nat} (hat:at'≤1000):
  ∃ ks:List Pt,G75 std (z0b l,(n:Int),y1j bs,(at':Int),())=some ((z1d ks).1,(z1d ks).2,())∧ks.length=n∧∀ x∈ks,x∈l:=by
 have hl1:1≤l.length:=List.length_pos_iff.2 hl
 have key:=z9r (b:=w1w std) n (fun (ks:List Pt) (i:Nat)=>((0:Int),(0:Int),(z1d ks).1,(z1d ks).2,z0b l,(n:Int),y1j bs,(at':Int),(i:Int),())) (fun ks i=>ks.length=i∧∀ x∈ks,x∈l)
  (fun r=>∃ ks:List Pt,r=((0:Int),(0:Int),(z1d ks).1,(z1d ks).2,())∧ks.length=n∧∀ x∈ks,x∈l) (fun ks i hi ⟨h1,h2⟩=>by
  left
  have c1:(i:Int)<(n:Int):=by omega
  have c2:(i:Int)≥0:=by omega
  have hw:=z1g (i:=i) (by omega)
  have hsum:∀ ks:List Pt,ks.length≤20→(∀ x∈ks,x∈l)→z0s (-20000) 20000 (z1d ks):=by
   intro ks
   have:∀ ks:List Pt,(∀ x∈ks,x∈l)→z0s (-(1000*(ks.length:Int))) (1000*(ks.length:Int)) (z1d ks):=by
    intro ks
    induction ks with
    |nil=>intro _; simp [z1d,z0s]
    |cons x ks ih=>
     intro h
     have b1:=hb x (h x (by simp))
     have b2:=ih (fun y hy=>h y (List.mem_cons_of_mem _ hy))
     rw [z0u]
     simp only [z0s,ad,List.length_cons] at*
     omega
   intro hk h
   have:=this ks h
   simp only [z0s] at*
   omega
  have hb0:=hsum ks (by omega) h2
  have fin:∀ (j:Nat) (x:Pt),l[j]?=some x→IntKind.i64.wrap ((z1d ks).1+x.1)=(z1d (x::ks)).1∧IntKind.i64.wrap ((z1d ks).2+x.2)=(z1d (x::ks)).2:=by
   intro j x hx
   have b1:=hb x (List.mem_of_getElem? hx)
   rw [z0u]
   simp only [z0s,ad] at*
   exact ⟨by rw [z1k]<;>omega,by rw [z1k]<;>omega⟩
  by_cases h0:bs.length=0
  ·obtain ⟨x,hx⟩:=z0q (l:=l) (i:=0) (by omega)
   obtain ⟨f1,f2⟩:=fin 0 x hx
   refine ⟨x::ks,?_,by simp [h1],fun y hy=>?_⟩
   ·have c3:¬ (bs.length:Int)>0:=by omega
    have gx:=z0w hx
    simp only [w1w,z01,z02,z0p,z1b,z1a,z27,z0v,z0e,z1l,z0f,hw,c1,c2,c3,Int.toNat_zero,gx,f1,f2,ge_iff_le,Int.le_refl]
   ·rcases List.mem_cons.1 hy with rfl|hy
    ·exact List.mem_of_getElem? hx
    ·exact h2 y hy
  ·obtain ⟨b,hbb⟩:=z0q (l:=bs) (i:=(at'+i) % bs.length) (Nat.mod_lt _ (by omega))
   have hbr:=y77 (hbs b (List.mem_of_getElem? hbb))
   obtain ⟨x,hx⟩:=z0q (l:=l) (i:=b.toNat % l.length) (Nat.mod_lt _ (by omega))
   obtain ⟨f1,f2⟩:=fin _ x hx
   refine ⟨x::ks,?_,by simp [h1],fun y hy=>?_⟩
   ·have c3:(bs.length:Int)>0:=by omega
    have c4:¬ (bs.length:Int)=0:=by omega
    have c5:¬ (l.length:Int)=0:=by omega
    have w1:IntKind.i64.wrap ((at':Int)+(i:Int))=((at'+i:Nat):Int):=by rw [z1k]<;>omega
    have w2:(((at'+i:Nat):Int)).tmod (bs.length:Int)=(((at'+i) % bs.length:Nat):Int):=by
     rw [Int.tmod_eq_emod_of_nonneg (by omega)]; rfl
    have w3:IntKind.i64.wrap b=b:=by rw [z1k]<;>omega
    have w4:b.tmod (l.length:Int)=((b.toNat % l.length:Nat):Int):=by
     have:b=(b.toNat:Int):=by omega
     rw [this,Int.tmod_eq_emod_of_nonneg (by omega)]
     simp
    have c6:(((at'+i) % bs.length:Nat):Int)≥0:=by omega
    have c7:((b.toNat % l.length:Nat):Int)≥0:=by omega
    have gx:=z0w hx
    have gb:=w0x hbb
    simp only [w1w,z01,z02,z0p,z1b,z1a,z27,z0v,z0e,z1l,w4y,u0k,z0f,z1r,hw,c1,c2,c3,c4,c5,c6,c7,w1,w2,w3,w4,gx,gb,f1,f2,not_false_eq_true]
   ·rcases List.mem_cons.1 hy with rfl|hy
    ·exact List.mem_of_getElem? hx
    ·exact h2 y hy) (fun ks ⟨h1,h2⟩=>by
  have hn':¬ ((n:Int)<(n:Int)):=by omega
  exact ⟨((0:Int),(0:Int),(z1d ks).1,(z1d ks).2,()),by simp only [w1w,z01,z02,hn'],ks,rfl,h1,h2⟩) [] 0 (Nat.zero_le _) ⟨rfl,by simp⟩
 obtain ⟨r,h1,ks,h2,h3,h4⟩:=key
 subst h2
 refine ⟨ks,?_,h3,h4⟩
 unfold G75
 have e0:(z1d ([]:List Pt)).1=0:=rfl
 have e1:(z1d ([]:List Pt)).2=0:=rfl
 have k0:((0:Nat):Int)=0:=rfl
 rw [e0,e1,k0] at h1
 simp only [g75,it0_eq,z01,z02,h1]
theorem x83:∀ {a b:List Pt},a.length=b.length→z1d (List.zipWith ad a b)=ad (z1d a) (z1d b)
 |[],[],_=>rfl
 |x::a,y::b,h=>by
  have:=x83 (a:=a) (b:=b) (by simpa using h)
  rw [List.zipWith_cons_cons,z0u,z0u,z0u,this]
  simp only [ad]; exact Prod.ext (by simp; omega) (by simp; omega)
theorem x8q {A B a b:List Pt} (ha:∀ x∈a,x∈A) (hb:∀ x∈b,x∈B):∀ z∈List.zipWith ad a b,z∈z5o A B:=by
 intro z hz
 obtain ⟨i,hi⟩:=List.getElem?_of_mem hz
 rw [List.getElem?_zipWith] at hi
 cases h1:a[i]? with
 |none=>simp [h1] at hi
 |some x=>
  cases h2:b[i]? with
  |none=>simp [h1,h2] at hi
  |some y=>
   simp [h1,h2] at hi
   exact (z8z z).2 ⟨x,ha x (List.mem_of_getElem? h1),y,hb y (List.mem_of_getElem? h2),hi.symm⟩
def z2z (n:Int):Int:=1+n % 20
theorem x4g {A:List Pt} (hA:∀ x∈A,z0s (-5000) 5000 x):∀ {ks:List Pt},ks.length≤20→(∀ x∈ks,x∈A)→z0s (-100000) 100000 (z1d ks):=by
 have:∀ ks:List Pt,(∀ x∈ks,x∈A)→z0s (-(5000*(ks.length:Int))) (5000*(ks.length:Int)) (z1d ks):=by
  intro ks
  induction ks with
  |nil=>intro _; simp [z1d,z0s]
  |cons x ks ih=>
   intro h
   have b1:=hA x (h x (by simp))
   have b2:=ih (fun y hy=>h y (List.mem_cons_of_mem _ hy))
   rw [z0u]
   simp only [z0s,ad,List.length_cons] at*
   omega
 intro ks hk h
 have:=this ks h
 simp only [z0s] at*
 omega
theorem v6e {l:List Pt} {hs:List (List Pt)} (hf:z6k l hs) {n:Int} (hn:(Lit.int IntKind.u8 n).wf=true) {bs:List Int} (hbs:∀ b∈bs,(Lit.int IntKind.u8 b).wf=true) (hbl:bs.length≤1000):
  ∃ ks:List Pt,G33 std (z0b l,z0y hs,n,y1j bs,())=some ((z1d ks).1,(z1d ks).2,z2z n,())∧(ks.length:Int)=z2z n∧(∀ x∈ks,x∈z1j l hs):=by
 have hr:=y77 hn
 obtain ⟨m,hm⟩:∃ m:Nat,(m:Int)=z2z n:=⟨(z2z n).toNat,by unfold z2z; omega⟩
 have hm20:m≤20:=by unfold z2z at hm; omega
 have hlb:∀ x∈l,z0s (-1000) 1000 x:=fun x hx=>by obtain ⟨a,b,c,d⟩:=hf.box x hx; exact ⟨by omega,by omega,by omega,by omega⟩
 obtain ⟨k0,h1,h2,h3⟩:=w6s hf.ne (by have:=hf.many.2; omega) hlb hm20 hbs hbl (at':=0) (by omega)
 have key:=z9r (b:=w41 it0 std) hs.length (fun (ks:List Pt) (i:Nat)=>(z0b l,z0y hs,(0:Int),(0:Int),(0:Int),(z1d ks).1,(z1d ks).2,y1j bs,(m:Int),(i:Int),())) (fun ks i=>ks.length=m∧∀ x∈ks,x∈z1j l (hs.take i))
  (fun r=>∃ ks:List Pt,r=((0:Int),(0:Int),(0:Int),(z1d ks).1,(z1d ks).2,(m:Int),())∧ks.length=m∧∀ x∈ks,x∈z1j l hs) (fun ks i hi ⟨i1,i2⟩=>by
  left
  obtain ⟨h,hh⟩:=z0q hi
  have hmem:=List.mem_of_getElem? hh
  have gh:=y3z hh
  have h4:=hf.few
  have him:(i+1)*m≤5*20:=Nat.mul_le_mul (by omega) hm20
  obtain ⟨qs,q1,q2,q3⟩:=w6s (hf.neH h hmem) (by have:=(hf.manyH h hmem).2; omega) (hf.boxH h hmem) hm20 hbs hbl (at':=(i+1)*m) (by omega)
  have c1:(i:Int)<(hs.length:Int):=by omega
  have c2:(i:Int)≥0:=by omega
  have hw:=z1g (i:=i) (by omega)
  have hw2:IntKind.i64.wrap (((i+1:Nat):Int)*(m:Int))=(((i+1)*m:Nat):Int):=by
   rw [←Int.natCast_mul]
   rw [z1k]<;>omega
  have b1:=x4g (hf.take i).boxA (ks:=ks) (by omega) i2
  have b2:=x4g (A:=h) (fun x hx=>by obtain ⟨a,b,c,d⟩:=hf.boxH h hmem x hx; exact ⟨by omega,by omega,by omega,by omega⟩) (ks:=qs) (by omega) q3
  have e1:(z1d (List.zipWith ad ks qs))=ad (z1d ks) (z1d qs):=x83 (by omega)
  have w1:IntKind.i64.wrap ((z1d ks).1+(z1d qs).1)=(z1d (List.zipWith ad ks qs)).1:=by
   rw [e1]; simp only [z0s,ad] at*; rw [z1k]<;>omega
  have w2:IntKind.i64.wrap ((z1d ks).2+(z1d qs).2)=(z1d (List.zipWith ad ks qs)).2:=by
   rw [e1]; simp only [z0s,ad] at*; rw [z1k]<;>omega
  refine ⟨List.zipWith ad ks qs,?_,by simp; omega,?_⟩
  ·have q1':g75 it0 std (z0b h,(m:Int),y1j bs,(((i+1)*m:Nat):Int),())=_:=q1
   simp only [w41,z01,z02,z31,z0f,z09,hw,hw2,c1,c2,gh,z48,y6l,q1',w1,w2]
  ·rw [z3e hh,z6j]
   exact x8q i2 q3) (fun ks ⟨i1,i2⟩=>by
  have hn':¬ ((hs.length:Int)<(hs.length:Int)):=by omega
  rw [List.take_length] at i2
  exact ⟨((0:Int),(0:Int),(0:Int),(z1d ks).1,(z1d ks).2,(m:Int),()),by simp only [w41,z01,z02,z31,hn'],ks,rfl,i1,i2⟩) k0 0 (Nat.zero_le _) ⟨h2,h3⟩
 obtain ⟨r,r1,ks,r2,r3,r4⟩:=key
 subst r2
 refine ⟨ks,?_,by rw [r3,hm],r4⟩
 unfold G33
 have w1:IntKind.i64.wrap n=n:=by rw [z1k]<;>omega
 have w2:n.tmod 20=n % 20:=Int.tmod_eq_emod_of_nonneg hr.1
 have w3:IntKind.i64.wrap (1+n % 20)=(m:Int):=by
  rw [hm]; unfold z2z; rw [z1k]<;>omega
 have h1':g75 it0 std (z0b l,(m:Int),y1j bs,0,())=_:=h1
 have k0':((0:Nat):Int)=0:=rfl
 rw [k0'] at r1
 rw [←hm]
 simp only [g33,it0_eq,z01,z02,z0f,z1r,w1,w2,w3,h1',r1,show ¬ (20:Int)=0 by decide,not_false_eq_true]
theorem w3p {S c:List Pt} (hc:Cyc S c) {ks:List Pt} (h:∀ x∈ks,x∈S):InH c (z1d ks) (ks.length:Int):=by
 intro d
 obtain ⟨a,ha,hall⟩:=w00 hc d
 refine ⟨a,ha,?_⟩
 have:∀ ks:List Pt,(∀ x∈ks,x∈S)→0≤crs d (sb (z1d ks) (ml a (ks.length:Int))):=by
  intro ks
  induction ks with
  |nil=>intro _; simp [z1d,ml,crs,sb]
  |cons x ks ih=>
   intro h
   have h1:=hall x (h x (by simp))
   have h2:=ih (fun y hy=>h y (List.mem_cons_of_mem _ hy))
   have e:crs d (sb (z1d (x::ks)) (ml a ((x::ks).length:Int)))=crs d (sb x a)+crs d (sb (z1d ks) (ml a (ks.length:Int))):=by
    rw [z0u]
    simp only [crs,sb,ml,ad,List.length_cons]
    have:(((ks.length+1:Nat)):Int)=(ks.length:Int)+1:=by omega
    rw [this]; grind
   omega
 exact this ks h
theorem InH.trans {S T:List Pt} {p:Pt} {k:Int} (hk:0≤k) (h:InH S p k) (hs:∀ x∈S,InH T x 1):InH T p k:=by
 intro d
 obtain ⟨x,hx,h0⟩:=h d
 obtain ⟨y,hy,h1⟩:=hs x hx d
 refine ⟨y,hy,?_⟩
 rw [w7e p x y k d]
 have e:crs d (sb x (ml y 1))=crs d (sb x y):=by simp [ml]
 rw [e] at h1
 have:=Int.mul_nonneg hk h1
 omega
theorem x3k {n:Int} (hn:(Lit.int IntKind.u8 n).wf=true):1≤z2z n∧z2z n≤20:=by
 have:=y77 hn
 unfold z2z; omega
end Go.Am
end
section
namespace Go.Am
open M06
theorem w4h (a:List Pt) (p:Pt):z0b a++[eP p]=z0b (a++[p]):=by simp [z0b]
end Go.Am
end
section
namespace Go.Am
open M06
theorem z80 {S R:Type} {b:S→Option (S⊕R)} (n:Nat) (e:Nat→S) (r:R) (step:∀ i,i<n→b (e i)=some (.inl (e (i+1)))) (stop:b (e n)=some (.inr r)):z4m b (e 0)=some r:=by
 rcases z3w (b:=b) n e (fun _=>false) (fun _=>r) r (fun i hi=>by rw [step i hi]; rfl) stop with ⟨i,_,h,_⟩|⟨_,h⟩
 ·exact Bool.noConfusion h
 ·exact h
def z5g (l:List Pt) (hs:List (List Pt)):Nat:=(z1j l hs).length
theorem y2j (l:List Pt) {hs:List (List Pt)} {i:Nat} {h:List Pt} (hh:hs[i]?=some h):z5g l (hs.take (i+1))=z5g l (hs.take i)*h.length:=by
 unfold z5g
 rw [z3e hh,z6j,x0i]
theorem w24 {n m:Nat} (h:n≤m):12 ^ n≤12 ^ m:=Nat.pow_le_pow_right (by decide) h
theorem w3i {l:List Pt} {hs:List (List Pt)} (hf:z6k l hs):∀ i,i≤hs.length→z5g l (hs.take i)≤12 ^ (i+1):=by
 intro i
 induction i with
 |zero=>intro _; have:=hf.many.2; show l.length≤12 ^ 1; omega
 |succ i ih=>
  intro hi
  obtain ⟨h,hh⟩:=z0q (l:=hs) (i:=i) (by omega)
  rw [y2j l hh]
  have h1:=ih (by omega)
  have h2:=(hf.manyH h (List.mem_of_getElem? hh)).2
  calc z5g l (hs.take i)*h.length≤12 ^ (i+1)*12:=Nat.mul_le_mul h1 h2
   _=12 ^ (i+1+1):=(Nat.pow_succ ..).symm
theorem w3j {l:List Pt} {hs:List (List Pt)} (hf:z6k l hs) {i:Nat} (hi:i≤hs.length):z5g l (hs.take i)≤3000000:=by
 have h1:=w3i hf i hi
 have h2:=hf.few
 have h3:=w24 (n:=i+1) (m:=6) (by omega)
 have:(12:Nat) ^ 6=2985984:=by decide
 omega
theorem y68 {l:List Pt} {hs:List (List Pt)} (hf:z6k l hs):∀ i,i≤hs.length→z5g l (hs.take i)≤z5g l hs:=by
 have step:∀ k i,hs.length - i=k→i≤hs.length→z5g l (hs.take i)≤z5g l hs:=by
  intro k
  induction k with
  |zero=>
   intro i hk hi
   have:i=hs.length:=by omega
   subst this
   rw [List.take_length]; exact Nat.le_refl _
  |succ k ih=>
   intro i hk hi
   obtain ⟨h,hh⟩:=z0q (l:=hs) (i:=i) (by omega)
   have h1:=ih (i+1) (by omega) (by omega)
   rw [y2j l hh] at h1
   have h2:=(hf.manyH h (List.mem_of_getElem? hh)).1
   have:z5g l (hs.take i)*1≤z5g l (hs.take i)*h.length:=Nat.mul_le_mul_left _ h2
   omega
 exact fun i hi=>step _ i rfl hi
theorem v6c {l:List Pt} {hs:List (List Pt)} (hf:z6k l hs):G44 std (z0b l,z0y hs,())=some (((z5g l hs:Nat):Int),()):=by
 have key:=z80 (b:=w1x std) hs.length (fun i=>(z0b l,z0y hs,((z5g l (hs.take i):Nat):Int),(i:Int),())) (((z5g l hs:Nat):Int),()) (fun i hi=>by
  obtain ⟨h,hh⟩:=z0q hi
  have gh:=y3z hh
  have c1:(i:Int)<(hs.length:Int):=by omega
  have c2:(i:Int)≥0:=by omega
  have hw:=z1g (i:=i) (by have:=hf.few; omega)
  have hb:=w3j hf (i:=i+1) (by omega)
  have hm:=y2j l hh
  have hw2:IntKind.i64.wrap (((z5g l (hs.take i):Nat):Int)*(h.length:Int))=((z5g l (hs.take (i+1)):Nat):Int):=by
   rw [←Int.natCast_mul, ←hm]
   rw [z1k]<;>omega
  simp only [w1x,z01,z02,z31,z0f,z09,hw,hw2,c1,c2,gh,z48,y6l,z0e,eq_self,not_true,not_false_eq_true,decide_true,decide_false,Bool.not_true,Bool.not_false,cond_true,cond_false,Nat.le_refl,Bool.and_true,List.drop_zero,List.take_succ_cons,List.take_zero,List.length_append,List.length_cons,List.length_nil,Nat.zero_add]) (by
  have hn':¬ ((hs.length:Int)<(hs.length:Int)):=by omega
  simp only [w1x,z01,z02,z31,hn',List.take_length,eq_self,not_true,not_false_eq_true,decide_true,decide_false,Bool.not_true,Bool.not_false,cond_true,cond_false,Nat.le_refl,Bool.and_true,List.drop_zero,List.take_succ_cons,List.take_zero,List.length_append,List.length_cons,List.length_nil,Nat.zero_add])
 have key:it0 _ _ (w1x std) (z0b l,z0y hs,((l.length:Nat):Int),(0:Int),())=_:=key
 unfold G44
 simp only [g44,z01,z02,z0e,key,eq_self,not_true,not_false_eq_true,decide_true,decide_false,Bool.not_true,Bool.not_false,cond_true,cond_false,Nat.le_refl,Bool.and_true,List.drop_zero,List.take_succ_cons,List.take_zero,List.length_append,List.length_cons,List.length_nil,Nat.zero_add]
def x3g (x:Pt) (h:List Pt) (m:Nat):List Pt:=(h.take m).map (ad x)
theorem w5b {out:List Pt} {l:List Pt} {hs:List (List Pt)} {cur:List Pt} {i k:Nat} {h:List Pt} {x:Pt} (hh:hs[i]?=some h) (hx:cur[k]?=some x) (hbx:z0s (-100000) 100000 x) (hbh:∀ y∈h,z0s (-100000) 100000 y) (hl:out.length+h.length≤100000):
  z4m (x8f std) (z0b out,z0b l,z0y hs,z0b cur,(i:Int),(k:Int),(0:Int),())=some (z0b (out++h.map (ad x)),z0b l,z0y hs,z0b cur,(i:Int),(k:Int),()):=by
 have gh:=y3z hh
 have gx:=z0w hx
 have hi0:(0:Int)≤i:=by omega
 have hk0:(0:Int)≤k:=by omega
 have key:=z80 (b:=x8f std) h.length (fun m=>(z0b (out++x3g x h m),z0b l,z0y hs,z0b cur,(i:Int),(k:Int),(m:Int),())) (z0b (out++h.map (ad x)),z0b l,z0y hs,z0b cur,(i:Int),(k:Int),()) (fun m hm=>by
  obtain ⟨y,hy⟩:=z0q hm
  have gy:=z0w hy
  have c1:(m:Int)<(h.length:Int):=by omega
  have c2:(0:Int)≤m:=by omega
  have hw:=z1g (i:=m) (by omega)
  have by_:=hbh y (List.mem_of_getElem? hy)
  have w1:IntKind.i64.wrap (x.1+y.1)=(ad x y).1:=by simp only [z0s,ad] at*; rw [z1k]<;>omega
  have w2:IntKind.i64.wrap (x.2+y.2)=(ad x y).2:=by simp only [z0s,ad] at*; rw [z1k]<;>omega
  have hlen:(z0b (out++x3g x h m)).length=out.length+m:=by
   rw [z0e,List.length_append,x3g,List.length_map,List.length_take]; omega
  have e1:z0b (out++x3g x h (m+1))=z0b (out++x3g x h m)++[[.int .i64 (ad x y).1, .int .i64 (ad x y).2]]:=by
   have:x3g x h (m+1)=x3g x h m++[ad x y]:=by
    unfold x3g
    rw [List.take_add_one,hy]; simp
   rw [this, ←List.append_assoc, ←w4h]; rfl
  have ht:(z0b (out++x3g x h m)).take (out.length+m)=z0b (out++x3g x h m):=List.take_of_length_le (by omega)
  have hb1:out.length+m+1≤1000000:=by omega
  rw [e1]
  generalize z0b (out++x3g x h m)=X at hlen ht⊢
  simp only [x8f,z01,z02,z31,z0e,z0f,hw,c1,c2,gh,gx,gy,hi0,hk0,ge_iff_le,z48,y6l,z0p,z1b,z1a,w1,w2,hlen,ht,hb1,z5p,eq_self,not_true,not_false_eq_true,decide_true,decide_false,Bool.not_true,Bool.not_false,cond_true,cond_false,Nat.le_refl,Bool.and_true,List.drop_zero,List.take_succ_cons,List.take_zero,List.length_append,List.length_cons,List.length_nil,Nat.zero_add]) (by
  have hn':¬ ((h.length:Int)<(h.length:Int)):=by omega
  have er:x3g x h h.length=h.map (ad x):=by unfold x3g; rw [List.take_length]
  rw [er]
  simp only [x8f,z01,z02,gh,z48,y6l,hi0,ge_iff_le,z0e,hn',eq_self,not_true,not_false_eq_true,decide_true,decide_false,Bool.not_true,Bool.not_false,cond_true,cond_false,Nat.le_refl,Bool.and_true,List.drop_zero,List.take_succ_cons,List.take_zero,List.length_append,List.length_cons,List.length_nil,Nat.zero_add])
 have e0:out++x3g x h 0=out:=by simp [x3g]
 rw [e0] at key
 exact key
theorem v6b {l:List Pt} {hs:List (List Pt)} (hf:z6k l hs) (h300:z5g l hs≤300):G45 std (z0b l,z0y hs,())=some (z0b (z1j l hs),()):=by
 have inner:∀ (i:Nat) (h:List Pt),hs[i]?=some h→z4m (x8c it0 std) ([],z0b l,z0y hs,z0b (z1j l (hs.take i)),(i:Int),(0:Int),())=some (z0b (z5o (z1j l (hs.take i)) h),z0b l,z0y hs,(i:Int),()):=by
  intro i h hh
  have hil:i<hs.length:=(List.getElem?_eq_some_iff.1 hh).1
  have hmem:=List.mem_of_getElem? hh
  have hlen:(z5o (z1j l (hs.take i)) h).length≤300:=by
   have:=y68 hf (i+1) (by omega)
   unfold z5g at this
   rw [z3e hh,z6j] at this
   unfold z5g at h300
   omega
  have hcl:(z1j l (hs.take i)).length≤300:=by
   have:=y68 hf i (by omega)
   unfold z5g at this h300
   omega
  have hh12:=(hf.manyH h hmem).2
  have key:=z80 (b:=x8c it0 std) (z1j l (hs.take i)).length (fun k=>(z0b (z5o ((z1j l (hs.take i)).take k) h),z0b l,z0y hs,z0b (z1j l (hs.take i)),(i:Int),(k:Int),())) (z0b (z5o (z1j l (hs.take i)) h),z0b l,z0y hs,(i:Int),()) (fun k hk=>by
   obtain ⟨x,hx⟩:=z0q hk
   have c1:(k:Int)<((z1j l (hs.take i)).length:Int):=by omega
   have hw:=z1g (i:=k) (by omega)
   have hbx:=(hf.take i).boxA x (List.mem_of_getElem? hx)
   have ho:(z5o ((z1j l (hs.take i)).take k) h).length≤4000:=by
    rw [x0i,List.length_take]
    have:min k (z1j l (hs.take i)).length*h.length≤300*12:=Nat.mul_le_mul (by omega) hh12
    omega
   have h3:it0 _ _ (x8f std) _=_:=w5b (out:=z5o ((z1j l (hs.take i)).take k) h) (l:=l) (cur:=z1j l (hs.take i)) hh hx (by simp only [z0s] at hbx⊢; omega) (fun y hy=>by have:=hf.boxH h hmem y hy; simp only [z0s] at this⊢; omega) (by omega)
   rw [x6n hx]
   simp only [x8c,z01,z02,z0e,c1,h3,z0f,hw,eq_self,not_true,not_false_eq_true,decide_true,decide_false,Bool.not_true,Bool.not_false,cond_true,cond_false,Nat.le_refl,Bool.and_true,List.drop_zero,List.take_succ_cons,List.take_zero,List.length_append,List.length_cons,List.length_nil,Nat.zero_add]) (by
   have hn':¬ (((z1j l (hs.take i)).length:Int)<((z1j l (hs.take i)).length:Int)):=by omega
   simp only [x8c,z01,z02,z0e,hn',List.take_length,eq_self,not_true,not_false_eq_true,decide_true,decide_false,Bool.not_true,Bool.not_false,cond_true,cond_false,Nat.le_refl,Bool.and_true,List.drop_zero,List.take_succ_cons,List.take_zero,List.length_append,List.length_cons,List.length_nil,Nat.zero_add])
  exact key
 have key:=z80 (b:=w1t it0 std) hs.length (fun i=>(z0b l,z0y hs,z0b (z1j l (hs.take i)),(i:Int),())) (z0b (z1j l hs),()) (fun i hi=>by
  obtain ⟨h,hh⟩:=z0q hi
  have c1:(i:Int)<(hs.length:Int):=by omega
  have hw:=z1g (i:=i) (by have:=hf.few; omega)
  have h2:it0 _ _ (x8c it0 std) _=_:=inner i h hh
  rw [z3e hh,z6j]
  have ht:(z0b (z5o (z1j l (hs.take i)) h)).take (z0b (z5o (z1j l (hs.take i)) h)).length=z0b (z5o (z1j l (hs.take i)) h):=List.take_length
  generalize z0b (z5o (z1j l (hs.take i)) h)=X at h2 ht⊢
  simp only [w1t,z01,z02,z31,c1,h2,ht,z0f,hw,eq_self,not_true,not_false_eq_true,decide_true,decide_false,Bool.not_true,Bool.not_false,cond_true,cond_false,Nat.le_refl,Bool.and_true,List.drop_zero,List.take_succ_cons,List.take_zero,List.length_append,List.length_cons,List.length_nil,Nat.zero_add]) (by
  have hn':¬ ((hs.length:Int)<(hs.length:Int)):=by omega
  simp only [w1t,z01,z02,z31,hn',List.take_length,eq_self,not_true,not_false_eq_true,decide_true,decide_false,Bool.not_true,Bool.not_false,cond_true,cond_false,Nat.le_refl,Bool.and_true,List.drop_zero,List.take_succ_cons,List.take_zero,List.length_append,List.length_cons,List.length_nil,Nat.zero_add])
 have key:it0 _ _ (w1t it0 std) (z0b l,z0y hs,z0b l,(0:Int),())=_:=key
 unfold G45
 simp only [g45,z01,z02,key,eq_self,not_true,not_false_eq_true,decide_true,decide_false,Bool.not_true,Bool.not_false,cond_true,cond_false,Nat.le_refl,Bool.and_true,List.drop_zero,List.take_succ_cons,List.take_zero,List.length_append,List.length_cons,List.length_nil,Nat.zero_add]
theorem x90 {S c:List Pt} (hc:Cyc S c) (h3:2<c.length) {i:Nat} (hi:i<c.length) {p a b:Pt} (hp:c[i]?=some p) (ha:c[(i+1) % c.length]?=some a) (hb:c[(i+2) % c.length]?=some b):0<crs (sb a p) (sb b p):=by
 have h1:Nx S p a:=y5q hc (by omega) hp ha
 have h2:Nx S a b:=y5q hc (by omega) ha (by rw [Nat.mod_add_mod]; exact hb)
 have hge:0≤cr p a b:=(h1.2.2 b h2.1).1
 have hcr:cr p a b=crs (sb a p) (sb b p):=rfl
 rw [hcr] at hge
 rcases Int.lt_or_eq_of_le hge with h|h
 ·exact h
 ·exfalso
  have e:crs (sb a p) (sb b a)=0:=by
   have:crs (sb a p) (sb b a)=crs (sb a p) (sb b p):=by simp only [crs,sb]; grind
   omega
  have hpS:=y0q hc p (List.mem_of_getElem? hp)
  have hpb:=y5i hpS h1 h2 e
  subst hpb
  have:=y09 (y1m hc) hp hb
  by_cases hlt:i+2<c.length
  ·rw [Nat.mod_eq_of_lt hlt] at this; omega
  ·rw [Nat.mod_eq_sub_mod (by omega),Nat.mod_eq_of_lt (by omega)] at this; omega
theorem w8e {c:List Pt} {p:Pt} (hp:p∈c):InH c p 1:=fun d=>⟨p,hp,by simp [ml,sb,crs]⟩
theorem w3a (S:List Pt) {hz:List Pt} (h0:(0,0)∈hz):∀ x∈S,x∈z5o S hz:=fun x hx=>(z8z x).2 ⟨x,hx,(0,0),h0,(z1o x).symm⟩
theorem x9u {S T c d:List Pt} (hc:Cyc S c) (hd:Cyc T d) (hs:∀ x∈S,x∈T) {p:Pt} {k:Int} (hk:0<k) (h:InH c p k):inC d p k=true:=
 (y81 hd hk).2 ((x5o hd (by omega)).1 (((x5o hc (by omega)).2 h).sub hs))
end Go.Am
end
