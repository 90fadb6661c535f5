/- Texts of this claim. -/
import Derived.Test.YtejcgpekgbiooaaGreatDoorT14
set_option linter.unusedVariables false
set_option linter.unusedSimpArgs false
set_option linter.unusedSectionVars false
set_option maxRecDepth 100000
set_option maxHeartbeats 0
open List renaming all_eq_true → eAr,mem_of_getElem? → eAu,take_add_one → eDp,take_length → eDg,mem_iff_getElem → eDe,getElem?_eq_getElem → eAa,take_of_length_le → eDm,length_map → eBt,drop_zero → eDi,length_append → eBu,getElem?_map → eAg,getElem?_range → eDx,getElem?_eq_some_iff → eAd,length_take → eBv,mem_of_mem_take → eDs,pairwise_iff_getElem → eCa,any_eq_true → eCz,map_append → eDt
open Nat renaming zero_add → eAp,zero_le → eAv,le_refl → eAk,add_assoc → eAy,le_trans → eBf
open Bool renaming false_eq_true → eAi,and_self → eDq,or_eq_true → eAq
open Option renaming map_some → eBh
section
namespace Go.Am
open D12
variable {fl fl':List Int→Bool}
theorem u0n (l:List Int):std.plain (z1a l)=true:=by
 show (z1a l).all (fun r=>r.all z6v)=true
 rw [z1a,List.all_map,eAr]
 intro x _; rfl
theorem u1m (R A N:List (List D)) (La l:List Cd) (n i:Int) (k:Nat) (tb:Bool) {c:Cd} (hl:La.length≤60) (hf:Few La) (hfl:Few l) (hc:l[k]?=some c):
  z5r (u2e std) (R,(A,(z0p fl La,(N,(z0p fl l,(n,(i,((k:Int),(tb,((0:Int),()))))))))))=some (R,(A,(z0p fl La,(N,(z0p fl l,(n,(i,((k:Int),((tb||La.any fun d=>tch d c),()))))))))):=by
 have key:=y6h (b:=u2e std) La.length (fun (t:Bool) j=>(R,(A,(z0p fl La,(N,(z0p fl l,(n,(i,((k:Int),(t,((j:Int),())))))))))))
  (fun t j=>t=(tb||(La.take j).any fun d=>tch d c)) (fun r=>r=(R,(A,(z0p fl La,(N,(z0p fl l,(n,(i,((k:Int),((tb||La.any fun d=>tch d c),()))))))))))
  (fun t j hj hI=> .inl (by
   obtain ⟨d,hd⟩:=z1v hj
   obtain ⟨hw,h0⟩:=stp j (by omega)
   have hlt:(j:Int)<(La.length:Int):=by omega
   have hle:(La.map (eC fl)).length=La.length:=by simp
   have k0:(0:Int)≤(k:Int):=by omega
   have rd:=v3v (fl:=fl) hd
   have rc:=v3v (fl:=fl) hc
   have g44:=v5t d c (hf d (eAu hd)) (hfl c (eAu hc))
   have ht:(La.take (j+1)).any (fun d=>tch d c)=((La.take j).any (fun d=>tch d c)||tch d c):=by
    rw [eDp,hd]; simp
   simp only [z0p,z1a] at g44
   cases t with
   |true=>
    refine ⟨true,by simp only [u2e,z2d,z2e,z0p,z1a,z5s,y4y,z0p,z1a,z4b,Int.reduceLT,Int.reduceEq,Int.reduceLE,hd,hc,rd,rc,hle,hlt,h0,hw,k0,eAp,if_true,if_false,eAi],?_⟩
    rw [ht, ←Bool.or_assoc, ←hI,Bool.true_or]
   |false=>
    refine ⟨tch d c,by simp only [u2e,z2d,z2e,z0p,z1a,z5s,y4y,z0p,z1a,z4b,Int.reduceLT,Int.reduceEq,Int.reduceLE,hd,hc,rd,rc,hle,hlt,h0,hw,k0,g44,eAp,if_true,if_false,eAi],?_⟩
    rw [ht, ←Bool.or_assoc, ←hI,Bool.false_or]))
  (fun t hI=>⟨(R,(A,(z0p fl La,(N,(z0p fl l,(n,(i,((k:Int),(t,()))))))))),by
   have hno:¬ (La.length:Int)<(La.length:Int):=by omega
   have hle:(z0p fl La).length=La.length:=z2i La
   simp only [u2e,z2d,z2e,hno,hle,if_false],by rw [eDg] at hI; rw [hI]⟩) tb 0 (eAv _) (by simp)
 obtain ⟨r,h1,rfl⟩:=key
 exact h1
theorem u1k (R A N:List (List D)) (La l:List Cd) (n i:Int) (k:Nat) (tb:Bool) {c:Cd} (hl:La.length≤60) (hf:Few La) (hfl:Few l) (hc:l[k]?=some c):
  z5r (u2d std) (R,(A,(z0p fl La,(N,(z0p fl l,(n,(i,((k:Int),(tb,((0:Int),()))))))))))=some (R,(A,(z0p fl La,(N,(z0p fl l,(n,(i,((k:Int),((tb||La.any fun d=>tch d c),()))))))))):=by
 have key:=y6h (b:=u2d std) La.length (fun (t:Bool) j=>(R,(A,(z0p fl La,(N,(z0p fl l,(n,(i,((k:Int),(t,((j:Int),())))))))))))
  (fun t j=>t=(tb||(La.take j).any fun d=>tch d c)) (fun r=>r=(R,(A,(z0p fl La,(N,(z0p fl l,(n,(i,((k:Int),((tb||La.any fun d=>tch d c),()))))))))))
  (fun t j hj hI=> .inl (by
   obtain ⟨d,hd⟩:=z1v hj
   obtain ⟨hw,h0⟩:=stp j (by omega)
   have hlt:(j:Int)<(La.length:Int):=by omega
   have hle:(La.map (eC fl)).length=La.length:=by simp
   have k0:(0:Int)≤(k:Int):=by omega
   have rd:=v3v (fl:=fl) hd
   have rc:=v3v (fl:=fl) hc
   have g44:=v5t d c (hf d (eAu hd)) (hfl c (eAu hc))
   have ht:(La.take (j+1)).any (fun d=>tch d c)=((La.take j).any (fun d=>tch d c)||tch d c):=by
    rw [eDp,hd]; simp
   simp only [z0p,z1a] at g44
   cases t with
   |true=>
    refine ⟨true,by simp only [u2d,z2d,z2e,z0p,z1a,z5s,y4y,z0p,z1a,z4b,Int.reduceLT,Int.reduceEq,Int.reduceLE,hd,hc,rd,rc,hle,hlt,h0,hw,k0,eAp,if_true,if_false,eAi],?_⟩
    rw [ht, ←Bool.or_assoc, ←hI,Bool.true_or]
   |false=>
    refine ⟨tch d c,by simp only [u2d,z2d,z2e,z0p,z1a,z5s,y4y,z0p,z1a,z4b,Int.reduceLT,Int.reduceEq,Int.reduceLE,hd,hc,rd,rc,hle,hlt,h0,hw,k0,g44,eAp,if_true,if_false,eAi],?_⟩
    rw [ht, ←Bool.or_assoc, ←hI,Bool.false_or]))
  (fun t hI=>⟨(R,(A,(z0p fl La,(N,(z0p fl l,(n,(i,((k:Int),(t,()))))))))),by
   have hno:¬ (La.length:Int)<(La.length:Int):=by omega
   have hle:(z0p fl La).length=La.length:=z2i La
   simp only [u2d,z2d,z2e,hno,hle,if_false],by rw [eDg] at hI; rw [hI]⟩) tb 0 (eAv _) (by simp)
 obtain ⟨r,h1,rfl⟩:=key
 exact h1
theorem u1l (R A L':List (List D)) (No l:List Cd) (n i:Int) (k:Nat) (tb:Bool) {c:Cd} (hl:No.length≤60) (hf:Few No) (hfl:Few l) (hc:l[k]?=some c) (hno:∀ d∈No,tch d c=false):
  z5r (u4b std) (R,(A,(L',(z0p fl No,(z0p fl l,(n,(i,((k:Int),(tb,((0:Int),()))))))))))=some (.inr (R,(A,(L',(z0p fl No,(z0p fl l,(n,(i,((k:Int),(tb,())))))))))):=by
 have key:=y6h (b:=u4b std) No.length (fun (_:Unit) j=>(R,(A,(L',(z0p fl No,(z0p fl l,(n,(i,((k:Int),(tb,((j:Int),())))))))))))
  (fun _ _=>True) (fun r=>r= .inr (R,(A,(L',(z0p fl No,(z0p fl l,(n,(i,((k:Int),(tb,()))))))))))
  (fun _ j hj _=> .inl ⟨(),by
   obtain ⟨d,hd⟩:=z1v hj
   obtain ⟨hw,h0⟩:=stp j (by omega)
   have hlt:(j:Int)<(No.length:Int):=by omega
   have hle:(No.map (eC fl)).length=No.length:=by simp
   have k0:(0:Int)≤(k:Int):=by omega
   have rd:=v3v (fl:=fl) hd
   have rc:=v3v (fl:=fl) hc
   have g44:=v5t d c (hf d (eAu hd)) (hfl c (eAu hc))
   rw [hno d (eAu hd)] at g44
   simp only [z0p,z1a] at g44
   simp only [u4b,z2d,z2e,z0p,z1a,z5s,y4y,z0p,z1a,z4b,Int.reduceLT,Int.reduceEq,Int.reduceLE,hd,hc,rd,rc,hle,hlt,h0,hw,k0,g44,eAp,if_true,if_false,eAi],trivial⟩)
  (fun _ _=>⟨_,by
   have hno:¬ (No.length:Int)<(No.length:Int):=by omega
   have hle:(z0p fl No).length=No.length:=z2i No
   simp only [u4b,z2d,z2e,hno,hle,if_false],rfl⟩) () 0 (eAv _) trivial
 obtain ⟨r,h1,rfl⟩:=key
 exact h1
theorem u1j (R A L':List (List D)) (No l:List Cd) (n i:Int) (k:Nat) (tb:Bool) {c:Cd} (hl:No.length≤60) (hf:Few No) (hfl:Few l) (hc:l[k]?=some c) (hno:∀ d∈No,tch d c=false):
  z5r (u4a std) (R,(A,(L',(z0p fl No,(z0p fl l,(n,(i,((k:Int),(tb,((0:Int),()))))))))))=some (.inr (R,(A,(L',(z0p fl No,(z0p fl l,(n,(i,((k:Int),(tb,())))))))))):=by
 have key:=y6h (b:=u4a std) No.length (fun (_:Unit) j=>(R,(A,(L',(z0p fl No,(z0p fl l,(n,(i,((k:Int),(tb,((j:Int),())))))))))))
  (fun _ _=>True) (fun r=>r= .inr (R,(A,(L',(z0p fl No,(z0p fl l,(n,(i,((k:Int),(tb,()))))))))))
  (fun _ j hj _=> .inl ⟨(),by
   obtain ⟨d,hd⟩:=z1v hj
   obtain ⟨hw,h0⟩:=stp j (by omega)
   have hlt:(j:Int)<(No.length:Int):=by omega
   have hle:(No.map (eC fl)).length=No.length:=by simp
   have k0:(0:Int)≤(k:Int):=by omega
   have rd:=v3v (fl:=fl) hd
   have rc:=v3v (fl:=fl) hc
   have g44:=v5t d c (hf d (eAu hd)) (hfl c (eAu hc))
   rw [hno d (eAu hd)] at g44
   simp only [z0p,z1a] at g44
   simp only [u4a,z2d,z2e,z0p,z1a,z5s,y4y,z0p,z1a,z4b,Int.reduceLT,Int.reduceEq,Int.reduceLE,hd,hc,rd,rc,hle,hlt,h0,hw,k0,g44,eAp,if_true,if_false,eAi],trivial⟩)
  (fun _ _=>⟨_,by
   have hno:¬ (No.length:Int)<(No.length:Int):=by omega
   have hle:(z0p fl No).length=No.length:=z2i No
   simp only [u4a,z2d,z2e,hno,hle,if_false],rfl⟩) () 0 (eAv _) trivial
 obtain ⟨r,h1,rfl⟩:=key
 exact h1
theorem u1i (l m:List Cd) (hl:l.length≤60) (hm:(m.map (·.n)).Nodup) (hn:l.Nodup) (hw:∀ c∈l,Wf c) (he:Eqv l m):
  z5r (u3z std) (z0p fl m,(z1a (v3k no l),(z1a (v3k no m),(z0p fl l,((0:Int),())))))=some (.inr ()):=by
 have hml:=he.1.length_eq
 have key:=y6h (b:=u3z std) l.length (fun (_:Unit) i=>(z0p fl m,(z1a (v3k no l),(z1a (v3k no m),(z0p fl l,((i:Int),()))))))
  (fun _ _=>True) (fun r=>r= .inr ())
  (fun _ i hi _=> .inl ⟨(),by
   obtain ⟨c,hc⟩:=z1v hi
   obtain ⟨hw1,h0⟩:=stp i (by omega)
   have hcm:c∈m:=he.1.mem_iff.1 (eAu hc)
   obtain ⟨j,hj,hjc⟩:=eDe.1 hcm
   have hj':m[j]?=some c:=by rw [eAa hj,hjc]
   have ea:=v74 hc
   have eb:=v74 hj'
   obtain ⟨s1,_⟩:=split_at hc
   obtain ⟨s2,_⟩:=split_at hj'
   have hee:=v8y hw (fun c hc=>hw c (he.1.mem_iff.2 hc)) (v8z hn he) trivial s1 s2
   rw [←hee] at eb
   generalize errC (st (l.take i)) c=E at*
   have ra:=u0h ea
   have rb:=u0h eb
   have g43:=v5u (fl:=fl) m c.n (by omega)
   rw [v3x hm hj'] at g43
   have rc:=v3v (fl:=fl) hc
   have hle:(l.map (eC fl)).length=l.length:=by simp
   have hmt:(m.map (eC fl)).take m.length=m.map (eC fl):=eDm (by simp)
   have la:((v3k no l).map eI).length=l.length:=by rw [eBt,z59]
   have lb:((v3k no m).map eI).length=l.length:=by rw [eBt,z59]; omega
   have k1:(i:Int)<(l.length:Int):=by omega
   have k2:(0:Int)≤(j:Int):=by omega
   have k3:(j:Int)<(l.length:Int):=by omega
   simp only [z0p] at g43
   simp only [u3z,z2d,z2e,z0p,z1a,z5s,y4y,z0p,z1a,y8q,w5s,z4b,Int.reduceLT,Int.reduceEq,Int.reduceLE,hc,ra,rb,rc,ea,eb,hle,hmt,la,lb,k1,k2,k3,h0,hw1,g43,eDi,eAk,eAp,eDq,if_true,if_false,eAi,ne_eq,not_true,not_false_eq_true],trivial⟩)
  (fun _ _=>⟨_,by
   have hno:¬ (l.length:Int)<(l.length:Int):=by omega
   have hle:(z0p fl l).length=l.length:=z2i l
   simp only [u3z,z2d,z2e,hno,hle,if_false],rfl⟩) () 0 (eAv _) trivial
 obtain ⟨r,h1,rfl⟩:=key
 exact h1
theorem v7k {l:List Cd} (m:Nat):(z32 l m).length≤l.length:=by unfold z32; rw [eBt]; exact v6f _ _ _
theorem v5r (l:List Cd) (m:Nat):v5a l (m+1)=v5a l m++z32 l m:=by unfold v5a; rw [List.range_succ,List.flatMap_append]; simp
theorem v5s (l:List Cd) (a:Nat):∀ b,(v5a l a).length≤(v5a l (a+b)).length
 |0=>eAk _
 |b+1=>by rw [←eAy,v5r,eBu]; have:=v5s l a b; omega
theorem u1n (A:List (List D)) (l La:List Cd) (m:Nat) (h:z4y l=0) (hm:m<mxs (z63 l) l) (hLl:La.length≤60) (hLf:Few La) (hLa:m≠0→La=z32 l (m - 1)):
  z5r (u2f std) (z35 tru (z20 l),(A,(z0p fl La,([],(z0p fl l,((m:Int),((0:Int),())))))))=some (.inr (z35 tru (z20 l),(A,(z0p fl (z32 l m),(z0p fl l,((m:Int),())))))):=by
 obtain ⟨h1,h2,h3,h4,h5⟩:=z22 h
 have hi:=z21 h2
 have hM:mxs (z63 l) l≤60:=eBf (v3p h3 (v4y l) l [] (by simp)) h1
 have hrow:(z20 l)[m]?=some (v26 l (z63 l) (m+1)):=by
  unfold z20
  rw [eAg,eDx hm]; rfl
 have hrl:((z20 l).map (eLf tru)).length=mxs (z63 l) l:=by rw [eBt,v3r]
 have hrr:((z20 l).map (eLf tru))[m]?=some (eLf tru (v26 l (z63 l) (m+1))):=by rw [eAg,hrow]; rfl
 have n0:(0:Int)≤(m:Int):=by omega
 have n1:(m:Int)<(mxs (z63 l) l:Int):=by omega
 have hlen:=v6f l (z63 l) (m+1)
 have hlt:=u0j h2 (z63 l) (m+1)
 have hrc:z32 l m=(v26 l (z63 l) (m+1)).map (u3x l):=rfl
 have hnd:=v5b h2 m
 have hcd:∀ i x,(v26 l (z63 l) (m+1))[i]?=some x→∃ c∈l,c.n=x∧z63 l c=m+1∧(z32 l m)[i]?=some c:=fun i x hx=>by
  obtain ⟨c,c1,c2,c3,c4⟩:=v4w hi (eAu hx)
  exact ⟨c,c1,c2,c3,by rw [hrc,eAg,hx,eBh,c4]⟩
 generalize v26 l (z63 l) (m+1)=row at*
 have hyl:(row.map eI).length=row.length:=by simp
 have key:=y6h (b:=u2f std) row.length (fun (_:Unit) i=>(z35 tru (z20 l),(A,(z0p fl La,(z0p fl ((z32 l m).take i),(z0p fl l,((m:Int),((i:Int),()))))))))
  (fun _ _=>True) (fun r=>r= .inr (z35 tru (z20 l),(A,(z0p fl (z32 l m),(z0p fl l,((m:Int),()))))))
  (fun _ i hil _=> .inl ⟨(),by
   obtain ⟨x,hx⟩:=z1v hil
   obtain ⟨hw1,h0⟩:=stp i (by omega)
   obtain ⟨c,c1,c2,c3,c4⟩:=hcd i x hx
   obtain ⟨k,hk,hkc⟩:=eDe.1 c1
   have hk':l[k]?=some c:=by rw [eAa hk,hkc]
   have k0:(0:Int)≤(k:Int):=by omega
   have k1:¬ (k:Int)<0:=by omega
   have g43:=v5u (fl:=fl) l x (by omega)
   rw [←c2,v3x h2 hk',c2] at g43
   have hxr:=u0h hx
   have i1:(i:Int)<(row.length:Int):=by omega
   have rc:=v3v (fl:=fl) hk'
   have hF:std.rdF (l.map (eC fl)) k 2 1=fl c.t:=u5n ‹_›
   have htk:(z32 l m).take (i+1)=(z32 l m).take i++[c]:=by rw [eDp,c4]; rfl
   have hil2:i<(z32 l m).length:=(eAd.1 c4).1
   have hNl:((z32 l m).take i).length=i:=by rw [eBv]; omega
   have hNo:∀ d∈(z32 l m).take i,tch d c=false:=by
    intro d hd
    obtain ⟨d1,d2⟩:=(z41 hi).1 (eDs hd)
    refine v7j c1 d1 (by rw [d2,c3]) fun e=>?_
    subst e
    obtain ⟨j,hj,hjd⟩:=eDe.1 hd
    have hji:j<i:=by omega
    rw [List.getElem_take] at hjd
    have hci:(z32 l m)[i]=d:=by rw [eAa hil2] at c4; exact Option.some.inj c4
    exact (eCa.1 hnd) j i (by omega) hil2 hji (by rw [hjd,hci])
   have hNf:Few ((z32 l m).take i):=fun d hd=>z72 h d ((z41 hi).1 (eDs hd)).1
   have htc:(decide ((m:Int)=0)||La.any fun d=>tch d c)=true:=by
    by_cases e:m=0
    ·subst e; rfl
    ·rw [eAq]; right
     rw [hLa e,eCz]
     exact v7i hi c1 (by omega)
   rw [htk]
   generalize (z32 l m).take i=N at*
   have a1:N.length+1≤1000000:=by omega
   have a4:(N.map (eC fl)).length=N.length:=by simp
   have a5:(N.map (eC fl)).take N.length=N.map (eC fl):=eDm (by simp)
   have hNN:(N++[c]).map (eC fl)=N.map (eC fl)++[[D.int .i64 c.n,D.int .i64 c.k,D.list (fl c.t) 1 (c.t.map eI),D.int .i64 c.a]]:=by simp [eC,z1a]
   have a6:(N.map (eC fl)++[[D.int .i64 c.n,D.int .i64 c.k,D.list (fl c.t) 1 (c.t.map eI),D.int .i64 c.a]]).length=N.length+1:=by simp
   by_cases hi0:i=0
   ·have p0:¬ (0:Int)<(i:Int):=by omega
    have g5:=u1k (fl:=fl) (z35 tru (z20 l)) A (z0p fl N) La l (m:Int) (i:Int) k (decide ((m:Int)=0)) hLl hLf (z72 h) hk'
    rw [htc] at g5
    have g6:=u1j (fl:=fl) (z35 tru (z20 l)) A (z0p fl La) N l (m:Int) (i:Int) k true (by omega) hNf (z72 h) hk' hNo
    simp only [z0p,z1a,z35] at g5 g6 g43
    simp only [u2f,z2d,z2e,z0p,z1a,z5s,y4y,z0p,z1a,z35,y8q,w5s,v47,u1c,z4b,Int.reduceLT,Int.reduceEq,Int.reduceLE,x46,Sum.elim_inl,Sum.elim_inr,hrl,hrr,n0,n1,hyl,i1,hxr,hx,h0,hw1,g43,k0,k1,p0,g5,g6,rc,hk',hF,a1,a4,a5,a6,hNN,eDi,List.take_succ_cons,List.take_zero,eAk,eAp,eDq,if_true,if_false,eAi]
    done
   ·have p0:(0:Int)<(i:Int):=by omega
    obtain ⟨w,hw⟩:=z1v (show i - 1<row.length by omega)
    have hwr:=u0h hw
    have hwx:w<x:=by
     have:=eCa.1 hlt (i - 1) i (by omega) hil (by omega)
     rw [eAa (show i - 1<row.length by omega)] at hw
     rw [eAa hil] at hx
     rw [←Option.some.inj hw, ←Option.some.inj hx]; exact this
    have hwx':¬ x≤w:=by omega
    have s1:std.ar .sub .i64 (i:Int) 1=((i - 1:Nat):Int):=by rw [z84,w21 _ (by omega) (by omega)]; omega
    have s1':IntKind.i64.wrap ((i:Int) - 1)=((i - 1:Nat):Int):=by rw [w21 _ (by omega) (by omega)]; omega
    have s2:(0:Int)≤((i - 1:Nat):Int):=by omega
    have g5:=u1m (fl:=fl) (z35 tru (z20 l)) A (z0p fl N) La l (m:Int) (i:Int) k (decide ((m:Int)=0)) hLl hLf (z72 h) hk'
    rw [htc] at g5
    have g6:=u1l (fl:=fl) (z35 tru (z20 l)) A (z0p fl La) N l (m:Int) (i:Int) k true (by omega) hNf (z72 h) hk' hNo
    simp only [z0p,z1a,z35] at g5 g6 g43
    simp only [u2f,z2d,z2e,z0p,z1a,z5s,y4y,z0p,z1a,z35,y8q,w5s,v47,u1c,z4b,Int.reduceLT,Int.reduceEq,Int.reduceLE,x46,Sum.elim_inl,Sum.elim_inr,hrl,hrr,n0,n1,hyl,i1,hxr,hx,hw,hwr,hwx',s1,s1',s2,h0,hw1,g43,k0,k1,p0,g5,g6,rc,hk',hF,a1,a4,a5,a6,hNN,eDi,List.take_succ_cons,List.take_zero,eAk,eAp,eDq,if_true,if_false,eAi]
    done,trivial⟩)
  (fun _ _=>⟨_,by
   have hno:¬ (row.length:Int)<(row.length:Int):=by omega
   have e:(z32 l m).take row.length=z32 l m:=eDm (by rw [hrc]; simp)
   rw [e]
   simp only [u2f,z2d,z2e,z0p,z1a,z5s,y4y,z1a,z35,v47,u1c,z4b,Int.reduceLT,Int.reduceEq,Int.reduceLE,hrl,hrr,n0,n1,hyl,hno,eAp,if_true,if_false,eAi],rfl⟩) () 0 (eAv _) trivial
 obtain ⟨r,g1,rfl⟩:=key
 exact g1
end Go.Am
end
section
namespace Go.Am
open D12
variable {fl fl':List Int→Bool}
def v5l (l:List Cd) (m:Nat):List Cd:=if m=0 then [] else z32 l (m - 1)
theorem u1o (l:List Cd) (h:z4y l=0):
  z5r (u4c std) (z35 tru (z20 l),([],([],(z0p fl l,((0:Int),())))))=some (.inr (z0p fl (v5a l (mxs (z63 l) l)),(z0p fl l,()))):=by
 obtain ⟨h1,h2,h3,h4,h5⟩:=z22 h
 have hi:=z21 h2
 have hM:mxs (z63 l) l≤60:=eBf (v3p h3 (v4y l) l [] (by simp)) h1
 have hrl:(z35 tru (z20 l)).length=mxs (z63 l) l:=by unfold z35; rw [eBt,v3r]
 have hall:(v5a l (mxs (z63 l) l)).length≤60:=by rw [←(v6q h2).1.length_eq]; exact h1
 have key:=y6h (b:=u4c std) (mxs (z63 l) l) (fun (_:Unit) m=>(z35 tru (z20 l),(z0p fl (v5a l m),(z0p fl (v5l l m),(z0p fl l,((m:Int),()))))))
  (fun _ _=>True) (fun r=>r= .inr (z0p fl (v5a l (mxs (z63 l) l)),(z0p fl l,())))
  (fun _ m hm _=> .inl ⟨(),by
   obtain ⟨hw1,h0⟩:=stp m (by omega)
   have i1:(m:Int)<(mxs (z63 l) l:Int):=by omega
   have hLl:(v5l l m).length≤60:=by
    unfold v5l; split
    ·simp
    ·exact eBf (v7k _) h1
   have hLf:Few (v5l l m):=by
    unfold v5l; split
    ·intro c hc; cases hc
    ·exact fun c hc=>z72 h c ((z41 hi).1 hc).1
   have g2:=u1n (fl:=fl) (z0p fl (v5a l m)) l (v5l l m) m h hm hLl hLf (fun e=>by unfold v5l; rw [if_neg e])
   have hne:(z32 l m).length≠0:=by
    unfold z32
    rw [eBt]
    exact fun e=>u0i (v4y l) hm (List.eq_nil_of_length_eq_zero e)
   have hs:=v5r l m
   have hmo:=v5s l (m+1) (mxs (z63 l) l - (m+1))
   rw [show m+1+(mxs (z63 l) l - (m+1))=mxs (z63 l) l by omega] at hmo
   have hla:v5l l (m+1)=z32 l m:=rfl
   rw [hs,eBu] at hmo
   rw [hs,hla]
   generalize v5a l m=A at*
   generalize z32 l m=N at*
   have a0:¬ (N.length:Int)=0:=by omega
   have a1:1≤N.length:=by omega
   have a2:A.length+N.length≤1000000:=by omega
   have a3:(A.map (eC fl)).length=A.length:=by simp
   have a4:(N.map (eC fl)).length=N.length:=by simp
   have a5:(A.map (eC fl)).take A.length=A.map (eC fl):=eDm (by simp)
   have a6:(N.map (eC fl)).take N.length=N.map (eC fl):=eDm (by simp)
   have a7:(A.map (eC fl)++N.map (eC fl)).length=A.length+N.length:=by simp
   simp only [z0p] at g2
   simp only [u4c,z2d,z2e,z0p,z1a,z5s,y4y,z0p,z4b,Int.reduceLT,Int.reduceEq,Int.reduceLE,x46,Sum.elim_inl,Sum.elim_inr,hrl,i1,h0,hw1,g2,a0,a1,a2,a3,a4,a5,a6,a7,eDt,eDi,eAk,eAp,eDq,if_true,if_false,eAi]
   done,trivial⟩)
  (fun _ _=>⟨_,by
   have hno:¬ (mxs (z63 l) l:Int)<(mxs (z63 l) l:Int):=by omega
   simp only [u4c,z2d,z2e,hrl,hno,if_false],rfl⟩) () 0 (eAv _) trivial
 obtain ⟨r,g1,rfl⟩:=key
 exact g1
theorem u8e (l:List Cd):G8 std (z0p fl l,())=some (true,()):=by
 have g41:=u4t (fl:=fl) l
 unfold G8
 by_cases hf:u2c l=true
 ·have h:=v84.1 hf
  rw [hf] at g41
  obtain ⟨h1,h2,h3,h4,h5⟩:=z22 h
  have he:=v6q h2
  have i1:=u1o (fl:=fl) l h
  generalize v5a l (mxs (z63 l) l)=m at*
  have dm:=v5f h he.1.symm
  have hml:=he.1.length_eq
  obtain ⟨m1,m2,m3,m4,m5⟩:=z22 dm
  have hle:(z0p fl l).length=l.length:=z2i l
  have tS:∀ E:List (List D),E.take E.length=E:=fun E=>eDg
  have a1:=u0b (fl:=fl) l (z72 h)
  have a2:=u0b (fl:=fl) m (z72 dm)
  have r1:=u4w (fl:=fl) l (z72 h)
  rw [h,if_pos rfl] at a1 r1
  rw [dm,if_pos rfl] at a2
  have la:(z1a (v3k no l)).length=l.length:=by unfold z1a; rw [eBt,z59]
  have lb:(z1a (v3k no m)).length=l.length:=by unfold z1a; rw [eBt,z59]; omega
  have i2:=u1i (fl:=fl) l m h1 m2 h3 (fun c hc=>u0c (h4 c hc)) he
  have s1:=u4v (fl:=fl) (fl':=fl) l m (z72 h) (z72 dm)
  have s2:=u4u (fl:=fl) (fl':=fl) l m (z72 h) (z72 dm)
  rw [v8q h he] at s1 s2
  have pl:=u0n (v3k no m)
  simp only [z2d,z2e,z4b,Int.reduceLT,Int.reduceEq,Int.reduceLE,x46,Sum.elim_inl,Sum.elim_inr,g41,G16,a1,a2,r1,la,lb,hle,tS,i1,i2,s1,s2,pl,eAp,eAk,eDi,eDq,eAi,if_false,if_true,ne_eq,not_true,not_false_eq_true]
 ·have hf:u2c l=false:=by simpa using hf
  rw [hf] at g41
  simp only [z2d,z2e,z4b,Int.reduceLT,Int.reduceEq,Int.reduceLE,g41,G16]
end Go.Am
end
