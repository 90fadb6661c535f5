/- Texts of this claim. -/
import Derived.Test.YtejcgpekgbiooaaGreatDoorT15
set_option linter.unusedVariables false
set_option linter.unusedSimpArgs false
set_option linter.unusedSectionVars false
set_option maxRecDepth 100000
set_option maxHeartbeats 0
open Nat renaming le_trans → eBf,le_refl → eAk,zero_le → eAv,mod_lt → eCr,lt_or_ge → eBw,zero_add → eAp
open List renaming length_take → eBv,take_of_length_le → eDg,drop_zero → eDd,take_succ_cons → eFd,append_nil → eCn,take_length → eDf,mem_of_getElem? → eAu,getElem?_map → eAg,getElem?_eq_some_iff → eAd,mem_iff_getElem → eDb,getElem?_eq_getElem → eAa,mem_filter → eDa,getElem?_set_ne → eFa
open Bool renaming false_eq_true → eAi,and_self → eDc,and_true → eCc,false_and → eDs,and_eq_true → eAb,or_eq_true → eAq
open Int renaming tmod_eq_emod_of_nonneg → eDu
section
namespace Go.Am
open D12
variable {fl fl':List Int→Bool}
theorem u0h (n k a:Int) (f:Bool) (t:List (List D)):z3i [CK.int IntKind.i64,CK.int IntKind.i64,CK.list 1,CK.int IntKind.i64] [D.int IntKind.i64 n,D.int IntKind.i64 k,D.list f 1 t,D.int IntKind.i64 a]=true:=rfl
theorem v93 (z:Int):dI (D.int .i64 z)=z:=rfl
theorem v7q (f:Bool) (z:Nat) (es:List (List D)):dL (D.list f z es)=es:=rfl
theorem u4v (l m:List Cd) (hl:l.length≤1000) (hm:m.length≤1000000) (hf:Few l):G52 std (z0p fl l,(z0p fl' m,()))=some (z0p fl (l.filter fun c=>decide (0≤atI m c.n)),()):=by
 have key:=y6c (b:=v6v std) l.length (fun (_:Unit) i=>(z0p fl ((l.take i).filter fun c=>decide (0≤atI m c.n)),(z0p fl l,(z0p fl' m,((i:Int),()))))) (fun _ _=>True) (fun r=>r=(z0p fl (l.filter fun c=>decide (0≤atI m c.n)),()))
  (fun _ i hi _=> .inl ⟨(),by
   obtain ⟨c,hc⟩:=z1v hi
   obtain ⟨hw,h0⟩:=stp i (by omega)
   have hlt:(i:Int)<l.length:=by omega
   have hw':IntKind.i64.wrap ((i:Int)+1)=(i:Int)+1:=by simpa using hw
   have hrow:=v26 (fl:=fl) hc
   have hle:(l.map (eC fl)).length=l.length:=by simp
   have g43:=v29 (fl:=fl') m c.n hm
   have hlen:((l.take i).filter fun c=>decide (0≤atI m c.n)).length≤1000:=eBf (List.length_filter_le _ _) (by rw [eBv]; omega)
   rw [v45 (P:=fun c=>decide (0≤atI m c.n)) hc]
   generalize ((l.take i).filter fun c=>decide (0≤atI m c.n))=O at*
   have hF:std.rdF (l.map (eC fl)) i 2 1=fl c.t:=u2h ‹_›
   simp only [z0p] at g43
   by_cases hz:0≤atI m c.n
   ·have e1:O.length+1≤1000000:=by omega
    have e4:(O.map (eC fl)).length=O.length:=by simp
    have e5:(O.map (eC fl)).take O.length=O.map (eC fl):=eDg (by simp)
    simp only [v6v,z2c,z2d,z0p,z09,z5r,y4u,z0p,z38,Int.reduceLT,Int.reduceEq,Int.reduceLE,hc,hrow,hle,hlt,h0,hw,g43,hz,hF,e1,e4,e5,eAk,eDd,eFd,List.take_zero]
    simp [eC,z09,e1,e4,e5]
    simpa using hw
   ·simp only [v6v,z2c,z2d,z0p,z09,z5r,y4u,z0p,z38,Int.reduceLT,Int.reduceEq,Int.reduceLE,hc,hrow,hle,hlt,h0,hw,g43,hz,eCn,eAi,if_false],trivial⟩)
  (fun _ _=>⟨(z0p fl (l.filter fun c=>decide (0≤atI m c.n)),()),by
   have hno:¬ (l.length:Int)<l.length:=by omega
   have hle:(z0p fl l).length=l.length:=z2h l
   rw [eDf]
   simp only [v6v,z2c,z2d,hno,hle,if_false],rfl⟩) () 0 (eAv _) trivial
 obtain ⟨r,h1,rfl⟩:=key
 have h1:z5q (v6v std) ([],(z0p fl l,(z0p fl' m,((0:Int),()))))=_:=h1
 unfold G52
 simp only [z2c,z2d,h1]
def nOf (by':List Int) (i:Nat):Int:=if by'.length=0 then 0 else (by'.getD (i % by'.length) 0) % 3
theorem v9t (l:List Cd) (by':List Int) (t:Int) (hl:l.length≤60) (hb:by'.length≤200) (hz:∀ z∈by',0≤z∧z≤255):
  z5q (v60 std) ([],([],(z0p fl l,(v7o by',(t,((0:Int),()))))))=some (z0p fl (v3u (fun i=>!decide (nOf by' i=1)) l),(z0p fl (v3u (fun i=>!decide (nOf by' i=2)) l),(z0p fl l,(t,())))):=by
 have key:=y6c (b:=v60 std) l.length (fun (_:Unit) i=>(z0p fl (v3u (fun i=>!decide (nOf by' i=1)) (l.take i)),(z0p fl (v3u (fun i=>!decide (nOf by' i=2)) (l.take i)),(z0p fl l,(v7o by',(t,((i:Int),()))))))) (fun _ _=>True)
  (fun r=>r=(z0p fl (v3u (fun i=>!decide (nOf by' i=1)) l),(z0p fl (v3u (fun i=>!decide (nOf by' i=2)) l),(z0p fl l,(t,())))))
  (fun _ i hi _=> .inl ⟨(),by
   obtain ⟨c,hc⟩:=z1v hi
   obtain ⟨hw,h0⟩:=stp i (by omega)
   have hlt:(i:Int)<l.length:=by omega
   have hw':IntKind.i64.wrap ((i:Int)+1)=(i:Int)+1:=by simpa using hw
   have hrow:=v26 (fl:=fl) hc
   have hle:(l.map (eC fl)).length=l.length:=by simp
   have hF:std.rdF (l.map (eC fl)) i 2 1=fl c.t:=u2h ‹_›
   have hA:(v3u (fun i=>!decide (nOf by' i=1)) (l.take i)).length≤60:=eBf (v39 _ _).length_le (by rw [eBv]; omega)
   have hB:(v3u (fun i=>!decide (nOf by' i=2)) (l.take i)).length≤60:=eBf (v39 _ _).length_le (by rw [eBv]; omega)
   rw [v5o (P:=fun i=>!decide (nOf by' i=1)) hc,v5o (P:=fun i=>!decide (nOf by' i=2)) hc]
   generalize v3u (fun i=>!decide (nOf by' i=1)) (l.take i)=A at*
   generalize v3u (fun i=>!decide (nOf by' i=2)) (l.take i)=B at*
   have a1:A.length+1≤1000000:=by omega
   have a4:(A.map (eC fl)).length=A.length:=by simp
   have a5:(A.map (eC fl)).take A.length=A.map (eC fl):=eDg (by simp)
   have b1:B.length+1≤1000000:=by omega
   have b4:(B.map (eC fl)).length=B.length:=by simp
   have b5:(B.map (eC fl)).take B.length=B.map (eC fl):=eDg (by simp)
   have hyl:(by'.map eY).length=by'.length:=by simp
   have rr:std.ar .rem .i64 (i:Int) (by'.length:Int)=((i % by'.length:Nat):Int):=by
    rw [v25,eDu (by omega)]; omega
   have hn:∀ (z:Int) (k:Nat),0<by'.length→by'[k]?=some z→std.ar .rem .u8 z 3=z % 3:=fun z k _ hk=>by
    have:=(hz z (eAu hk)).1
    show z.tmod 3=_
    exact eDu this
   have p1:(0:Int)≤((i % by'.length:Nat):Int):=by omega
   by_cases hby:by'.length=0
   ·have hby':¬ (0:Int)<(by'.length:Int):=by omega
    have hn0:nOf by' i=0:=by unfold nOf; rw [if_pos hby]
    simp only [hn0]
    simp only [v60,z2c,z2d,z0p,z09,z5r,y4u,z0p,v7o,z38,Int.reduceLT,Int.reduceEq,Int.reduceLE,hc,hrow,hle,hlt,h0,hw,hyl,hby',hF,a1,a4,a5,b1,b4,b5,eAk,eDd,eFd,List.take_zero]
    simp [eC,z09,u0h,v93,v7q,hc,hF,hw',hrow,a1,a4,a5,b1,b4,b5,show A.length≤999999 by omega,show B.length≤999999 by omega]
   ·have hby':(0:Int)<(by'.length:Int):=by omega
    have hby2:¬ (by'.length:Int)=0:=by omega
    obtain ⟨z,hzk⟩:=z1v (show i % by'.length<by'.length from eCr _ (by omega))
    have hzr:(by'.map eY)[i % by'.length]?=some (eY z):=by rw [eAg,hzk]; rfl
    have h3:=hn z _ (by omega) hzk
    have hni:nOf by' i=z % 3:=by unfold nOf; rw [if_neg hby,z2g hzk]
    simp only [hni]
    have hz0:=(hz z (eAu hzk)).1
    have hcase:z % 3=0∨z % 3=1∨z % 3=2:=by omega
    rcases hcase with e|e|e<;>rw [e] at h3<;>simp only [e]<;>
    simp only [v60,z2c,z2d,z0p,z09,z5r,y4u,z0p,v7o,v88,u8e,z38,Int.reduceLT,Int.reduceEq,Int.reduceLE,hc,hrow,hle,hlt,h0,hw,hyl,hby',hby2,rr,p1,hzk,hzr,h3,hF,a1,a4,a5,b1,b4,b5,eAk,eDd,eFd,List.take_zero]<;>
    simp [eC,z09,u0h,v93,v7q,hc,hF,hw',hrow,a1,a4,a5,b1,b4,b5,show A.length≤999999 by omega,show B.length≤999999 by omega],trivial⟩)
  (fun _ _=>⟨(z0p fl (v3u (fun i=>!decide (nOf by' i=1)) l),(z0p fl (v3u (fun i=>!decide (nOf by' i=2)) l),(z0p fl l,(t,())))),by
   have hno:¬ (l.length:Int)<l.length:=by omega
   have hle:(z0p fl l).length=l.length:=z2h l
   rw [eDf]
   simp only [v60,z2c,z2d,hno,hle,if_false],rfl⟩) () 0 (eAv _) trivial
 obtain ⟨r,h1,rfl⟩:=key
 exact h1
def v3m (a b:List Cd) (x y:Cd):Bool:=(decide (0≤atI a x.n)&&decide (0≤atI a y.n))||(decide (0≤atI b x.n)&&decide (0≤atI b y.n))
theorem v6y (l a b:List Cd) (t:Int) (hl:l.length≤60) (ha:a.length≤1000) (hb:b.length≤1000) (hf:Few l) (al:Bool) (i k:Nat) {x y:Cd} (hx:l[i]?=some x) (hy:l[k]?=some y) (hk:k<i):
  v6z std (z0p fl l,(t,(z0p fl a,(z0p fl b,(al,((i:Int),((k:Int),())))))))=some (.inl (z0p fl l,(t,(z0p fl a,(z0p fl b,((al&&(v3m a b x y||!tch x y)),((i:Int),(((k+1:Nat):Int),())))))))):=by
 have hi:i<l.length:=(eAd.1 hx).1
 obtain ⟨hw,h0⟩:=stp k (by omega)
 have hlt:(k:Int)<(i:Int):=by omega
 have hi0:(0:Int)≤(i:Int):=by omega
 have rx:=v26 (fl:=fl) hx
 have ry:=v26 (fl:=fl) hy
 have ax:=v29 (fl:=fl) a x.n (by omega)
 have ay:=v29 (fl:=fl) a y.n (by omega)
 have bx:=v29 (fl:=fl) b x.n (by omega)
 have by2:=v29 (fl:=fl) b y.n (by omega)
 have h44:=v8j x y (hf x (eAu hx)) (hf y (eAu hy))
 unfold v3m
 simp only [z0p,z09] at ax ay bx by2 h44
 cases al<;>by_cases h1:0≤atI a x.n<;>by_cases h2:0≤atI a y.n<;>by_cases h3:0≤atI b x.n<;>by_cases h4:0≤atI b y.n<;>
  simp only [v6z,z2c,z2d,z0p,z09,z5r,y4u,z0p,z09,z38,Int.reduceLT,Int.reduceEq,Int.reduceLE,hx,hy,rx,ry,hlt,h0,hi0,hw,ax,ay,bx,by2,h1,h2,h3,h4,h44,eDc,Bool.or_true,Bool.true_or,Bool.false_or,Bool.or_false,eCc,Bool.true_and,eDs,Bool.and_false,eAi,if_false,if_true]<;>
  (cases tch x y<;>rfl)
theorem v9r (l a b:List Cd) (t:Int) (hl:l.length≤60) (ha:a.length≤1000) (hb:b.length≤1000) (hf:Few l) (al:Bool) (i:Nat) {x:Cd} (hx:l[i]?=some x):
  ∃ al':Bool,z5q (v6z std) (z0p fl l,(t,(z0p fl a,(z0p fl b,(al,((i:Int),((0:Int),())))))))=some (z0p fl l,(t,(z0p fl a,(z0p fl b,(al',((i:Int),()))))))∧
   (al'=true→al=true∧∀ (k:Nat) (y:Cd),k<i→l[k]?=some y→v3m a b x y=true∨tch x y=false):=by
 have hi:i<l.length:=(eAd.1 hx).1
 have key:=y6c (b:=v6z std) i (fun (al':Bool) k=>(z0p fl l,(t,(z0p fl a,(z0p fl b,(al',((i:Int),((k:Int),()))))))))
  (fun al' k=>al'=true→al=true∧∀ (j:Nat) (y:Cd),j<k→l[j]?=some y→v3m a b x y=true∨tch x y=false)
  (fun r=>∃ al':Bool,r=(z0p fl l,(t,(z0p fl a,(z0p fl b,(al',((i:Int),()))))))∧(al'=true→al=true∧∀ (k:Nat) (y:Cd),k<i→l[k]?=some y→v3m a b x y=true∨tch x y=false))
  (fun al' k hk hI=> .inl (by
   obtain ⟨y,hy⟩:=z1v (show k<l.length by omega)
   refine ⟨al'&&(v3m a b x y||!tch x y),v6y l a b t hl ha hb hf al' i k hx hy hk,fun h=>?_⟩
   rw [eAb] at h
   obtain ⟨h1,h2⟩:=hI h.1
   refine ⟨h1,fun j z hj hz=>?_⟩
   rcases eBw j k with hjk|hjk
   ·exact h2 j z hjk hz
   ·have:j=k:=by omega
    subst this
    rw [hy] at hz; cases hz
    simpa using h.2))
  (fun al' hI=>by
   have hno:¬ (i:Int)<(i:Int):=by omega
   exact ⟨(z0p fl l,(t,(z0p fl a,(z0p fl b,(al',((i:Int),())))))),by simp only [v6z,z2c,z2d,hno,if_false],al',rfl,hI⟩) al 0 (eAv _) (fun h=>⟨h,fun j y hj=>by omega⟩)
 obtain ⟨r,h1,al',rfl,h2⟩:=key
 exact ⟨al',h1,h2⟩
theorem v9s (l a b:List Cd) (t:Int) (hl:l.length≤60) (ha:a.length≤1000) (hb:b.length≤1000) (hf:Few l):
  ∃ al:Bool,z5q (v8b std) (z0p fl l,(t,(z0p fl a,(z0p fl b,(true,((0:Int),()))))))=some (z0p fl l,(t,(z0p fl a,(z0p fl b,(al,())))))∧
   (al=true→∀ (i k:Nat) (x y:Cd),k<i→l[i]?=some x→l[k]?=some y→v3m a b x y=true∨tch x y=false):=by
 have key:=y6c (b:=v8b std) l.length (fun (al:Bool) i=>(z0p fl l,(t,(z0p fl a,(z0p fl b,(al,((i:Int),())))))))
  (fun al i=>al=true→∀ (j k:Nat) (x y:Cd),j<i→k<j→l[j]?=some x→l[k]?=some y→v3m a b x y=true∨tch x y=false)
  (fun r=>∃ al:Bool,r=(z0p fl l,(t,(z0p fl a,(z0p fl b,(al,())))))∧(al=true→∀ (i k:Nat) (x y:Cd),k<i→l[i]?=some x→l[k]?=some y→v3m a b x y=true∨tch x y=false))
  (fun al i hi hI=> .inl (by
   obtain ⟨x,hx⟩:=z1v hi
   obtain ⟨hw,h0⟩:=stp i (by omega)
   have hlt:(i:Int)<l.length:=by omega
   have hle:(z0p fl l).length=l.length:=z2h l
   obtain ⟨al',h3,h4⟩:=v9r (fl:=fl) l a b t hl ha hb hf al i hx
   refine ⟨al',by simp only [v8b,z2c,z2d,z38,Int.reduceLT,Int.reduceEq,Int.reduceLE,hle,hlt,h3,hw],fun h j k u v hj hk hu hv=>?_⟩
   obtain ⟨e1,e2⟩:=h4 h
   rcases eBw j i with hji|hji
   ·exact hI e1 j k u v hji hk hu hv
   ·have:j=i:=by omega
    subst this
    rw [hx] at hu; cases hu
    exact e2 k v hk hv))
  (fun al hI=>by
   have hno:¬ (l.length:Int)<(l.length:Int):=by omega
   have hle:(z0p fl l).length=l.length:=z2h l
   exact ⟨(z0p fl l,(t,(z0p fl a,(z0p fl b,(al,()))))),by simp only [v8b,z2c,z2d,hno,hle,if_false],al,rfl,fun h i k x y hk hx hy=>hI h i k x y (eAd.1 hx).1 hk hx hy⟩) true 0 (eAv _) (fun _ j k x y hj=>by omega)
 obtain ⟨r,h1,al,rfl,h2⟩:=key
 exact ⟨al,h1,h2⟩
theorem v4p {l a b:List Cd} (hn:(l.map (·.n)).Nodup) (ha:a.Sublist l) (hb:b.Sublist l) {x y:Cd} (hx:x∈l) (hy:y∈l) (h:v3m a b x y=true):(x∈a∧y∈a)∨(x∈b∧y∈b):=by
 unfold v3m at h
 simp only [eAq,eAb,decide_eq_true_eq] at h
 rw [v3s hn (fun c hc=>ha.subset hc) hx,v3s hn (fun c hc=>ha.subset hc) hy,v3s hn (fun c hc=>hb.subset hc) hx,v3s hn (fun c hc=>hb.subset hc) hy] at h
 exact h
theorem u5b (l:List Cd) (by':List Int) (t:Int) (hz:∀ z∈by',0≤z∧z≤255) (ht:0≤t∧t≤255):G13 std (z0p fl l,(v7o by',(t,())))=some (true,()):=by
 have g41:=u4x (fl:=fl) l
 unfold G13
 by_cases hf:u2j l=true
 ·have h:=v81.1 hf
  rw [hf] at g41
  obtain ⟨h1,h2,h3,h4,h5⟩:=z20 h
  have hyl:(v7o by').length=by'.length:=v82 by'
  by_cases hb:200<by'.length
  ·have hb':(200:Int)<(by'.length:Int):=by omega
   simp only [z2c,z2d,z38,Int.reduceLT,Int.reduceEq,Int.reduceLE,g41,hyl,hb',G16]
  ·have hb':¬ (200:Int)<(by'.length:Int):=by omega
   have k1:=v9t (fl:=fl) l by' t h1 (by omega) hz
   have hsa:=v39 (fun i=>!decide (nOf by' i=1)) l
   have hsb:=v39 (fun i=>!decide (nOf by' i=2)) l
   have hcov:∀ x∈l,x∈v3u (fun i=>!decide (nOf by' i=1)) l∨x∈v3u (fun i=>!decide (nOf by' i=2)) l:=by
    intro x hx
    obtain ⟨i,hi,he⟩:=eDb.1 hx
    have hi':l[i]?=some x:=by rw [eAa hi,he]
    by_cases e:nOf by' i=1
    ·right; exact v66 hi' (by simp [e])
    ·left; exact v66 hi' (by simp [e])
   generalize v3u (fun i=>!decide (nOf by' i=1)) l=a at*
   generalize v3u (fun i=>!decide (nOf by' i=2)) l=b at*
   have hal:=hsa.length_le
   have hbl:=hsb.length_le
   have da:=z51 h hsa
   have db:=z51 h hsb
   obtain ⟨al,k2,hal2⟩:=v9s (fl:=fl) l a b t h1 (by omega) (by omega) (z44 h)
   obtain ⟨p1,p2,p3,p4⟩:=v6h h hsa hsb hcov
   have g46:=u0q (fl:=fl) a b (z44 da) (z44 db)
   rcases u0p (fl:=fl) a b (z44 da) (z44 db) with ⟨hx,_⟩|⟨_,_,g48⟩|⟨_,hx,_⟩
   ·exact absurd p1 hx
   ·have tS:∀ E:List (List D),E.take E.length=E:=fun E=>eDf
    have hle:(z0p fl l).length=l.length:=z2h l
    have half:(l.length<2)∨(∃ (k:Nat) (x y:Cd),2≤l.length∧std.ar .sub .i64 (l.length:Int) 1=((l.length - 1:Nat):Int)∧IntKind.i64.wrap t=t∧std.ar .rem .i64 t ((l.length - 1:Nat):Int)=(k:Int)∧k+1<l.length∧l[k]?=some x∧l[k+1]?=some y):=by
     by_cases h2':l.length<2
     ·exact .inl h2'
     ·right
      obtain ⟨tn,rfl⟩:=Int.eq_ofNat_of_zero_le ht.1
      have hk:tn % (l.length - 1)<l.length - 1:=eCr _ (by omega)
      obtain ⟨x,hx⟩:=z1v (show tn % (l.length - 1)<l.length by omega)
      obtain ⟨y,hy⟩:=z1v (show tn % (l.length - 1)+1<l.length by omega)
      refine ⟨tn % (l.length - 1),x,y,by omega,by rw [z8z,w2o _ (by omega) (by omega)]; omega,w2o _ (by omega) (by omega),?_,by omega,hx,hy⟩
      rw [v25,eDu (by omega)]; omega
    have g29:=u5a (fl:=fl) l (z44 h)
    rw [h,if_pos rfl] at g29
    have hlm:∀ c∈z22 l,c∈l:=fun c hc=>(z59 h3).1.mem_iff.2 hc
    have hll:(z22 l).length≤60:=by rw [←(z59 h3).1.length_eq]; exact h1
    have hfl:Few (z22 l):=fun c hc=>z44 h c (hlm c hc)
    have g34:=u4z (fl:=fun _=>false) (fl':=fun _=>false) (z22 l) (z22 l) (by omega) hfl
    rw [decide_eq_true rfl] at g34
    have part:∀ a:List Cd,a.Sublist l→G52 std (z0p (fun _=>false) (z22 l),(z0p fl a,()))=some (z0p (fun _=>false) ((z22 l).filter fun c=>decide (c∈a)),())∧G35 std (z0p (fun _=>false) ((z22 l).filter fun c=>decide (c∈a)),(z0p fl a,()))=some (0,()):=by
     intro a hs
     have e:((z22 l).filter fun c=>decide (0≤atI a c.n))=(z22 l).filter fun c=>decide (c∈a):=List.filter_congr fun c hc=>decide_eq_decide.2 (v3s h2 (fun c hc=>hs.subset hc) (hlm c hc))
     have g52:=u4v (fl:=fun _=>false) (fl':=fl) (z22 l) a (by omega) (by have:=hs.length_le; omega) hfl
     rw [e] at g52
     have g35:=u4y (fl:=fun _=>false) (fl':=fl) ((z22 l).filter fun c=>decide (c∈a)) a (fun c hc=>hfl c (eDa.1 hc).1) (z44 (z51 h hs))
     rw [v69 h hs] at g35
     exact ⟨g52,g35⟩
    obtain ⟨g52a,g35a⟩:=part a hsa
    obtain ⟨g52b,g35b⟩:=part b hsb
    have first:(z57 a b=0∧v3j a b=z22 l)∨(z57 a b=16∧al=false):=by
     by_cases hu:unkn a b
     ·right
      rw [if_pos hu] at p3
      refine ⟨p3,?_⟩
      cases al with
      |false=>rfl
      |true=>
       exfalso
       refine v6j h hsa hsb (fun x hx y hy hne htc=>?_) hu
       obtain ⟨i,hi,hix⟩:=eDb.1 hx
       obtain ⟨j,hj,hjy⟩:=eDb.1 hy
       have hi':l[i]?=some x:=by rw [eAa hi,hix]
       have hj':l[j]?=some y:=by rw [eAa hj,hjy]
       rcases Nat.lt_trichotomy i j with hij|hij|hij
       ·rcases hal2 rfl j i y x hij hj' hi' with h|h
        ·rcases v4p h2 hsa hsb hy hx h with h|h
         ·exact .inl ⟨h.2,h.1⟩
         ·exact .inr ⟨h.2,h.1⟩
        ·rw [v3d,htc] at h; cases h
       ·subst hij; rw [hi'] at hj'; exact absurd (Option.some.inj hj') hne
       ·rcases hal2 rfl i j x y hij hi' hj' with h|h
        ·exact v4p h2 hsa hsb hx hy h
        ·rw [htc] at h; cases h
     ·left
      rw [if_neg hu] at p3
      exact ⟨p3,p4 p3⟩
    have c16:¬ (16:Int)=0:=by omega
    have z0:((0:Nat):Int)=0:=rfl
    rcases half with hs2|⟨k,x,y,hn2,w1,w2,w3,hk1,hx,hy⟩
    ·have hs2':(l.length:Int)<2:=by omega
     rcases first with ⟨e1,e2⟩|⟨e1,e2⟩
     ·rw [e1,e2] at g46
      simp only [z2c,z2d,z38,Int.reduceLT,Int.reduceEq,Int.reduceLE,g41,hyl,hb',k1,k2,g46,g48,g29,tS,g34,g52a,g35a,g52b,g35b,hle,hs2',G16,eAp,eAk,eDd,eDc,z0,eAi,if_false,if_true]
     ·rw [e1] at g46
      rw [e2] at k2
      simp only [z2c,z2d,z38,Int.reduceLT,Int.reduceEq,Int.reduceLE,g41,hyl,hb',k1,k2,g46,g48,tS,hle,hs2',G16,eAp,eAk,eDd,eDc,z0,eAi,if_false,if_true,c16]
    ·have hs2':¬ (l.length:Int)<2:=by omega
     have hxm:=eAu hx
     have hym:=eAu hy
     have g44:=v8j x y (z44 h x hxm) (z44 h y hym)
     have rx:=v26 (fl:=fl) hx
     have ry:=v26 (fl:=fl) hy
     have w4:IntKind.i64.wrap ((k:Int)+1)=((k+1:Nat):Int):=x9z (by omega)
     have q1:(0:Int)≤(k:Int):=by omega
     have q2:(0:Int)≤((k+1:Nat):Int):=by omega
     have q3:(k:Int)<(l.length:Int):=by omega
     have q4:((k+1:Nat):Int)<(l.length:Int):=by omega
     have q5:¬ l.length≤0:=by omega
     have q6:1≤l.length:=by omega
     have q7:l.length≤1000000:=by omega
     have q8:¬ ((l.length - 1:Nat):Int)=0:=by omega
     cases htc:tch x y with
     |false=>
      rw [htc] at g44
      simp only [z0p,z09] at g41 g46 g48 g29 g34 g52a g35a g52b g35b hle g44 k1 k2
      rcases first with ⟨e1,e2⟩|⟨e1,e2⟩
      ·rw [e1,e2] at g46
       simp only [z2c,z2d,z0p,z09,z5r,y4u,z0p,z09,z38,Int.reduceLT,Int.reduceEq,Int.reduceLE,g41,hyl,hb',k1,k2,g46,g48,g29,tS,g34,g52a,g35a,g52b,g35b,hle,hs2',G16,eAp,eAk,eDd,eDc,z0,eAi,if_false,if_true,hx,hy,rx,ry,w1,w2,w3,w4,q1,q2,q3,q4,q8,g44]
      ·rw [e1] at g46
       rw [e2] at k2
       simp only [z2c,z2d,z0p,z09,z5r,y4u,z0p,z09,z38,Int.reduceLT,Int.reduceEq,Int.reduceLE,g41,hyl,hb',k1,k2,g46,g48,tS,hle,hs2',G16,eAp,eAk,eDd,eDc,z0,eAi,if_false,if_true,c16,hx,hy,rx,ry,w1,w2,w3,w4,q1,q2,q3,q4,q8,g44]
     |true=>
      rw [htc] at g44
      have hdk:l.drop k=x::l.drop (k+1):=v4e hx
      have hdk2:l.drop (k+1)=y::l.drop (k+2):=v4e hy
      have hsl:l=l.take k++x::y::l.drop (k+2):=by rw [←hdk2, ←hdk,List.take_append_drop]
      have hkl:(l.take k).length=k:=by rw [eBv]; omega
      have hsm:(l.set k y).set (k+1) x=l.take k++y::x::l.drop (k+2):=by
       conv=>lhs; rw [hsl]
       rw [List.set_append_right _ _ (by omega),hkl,Nat.sub_self,List.set_cons_zero,List.set_append_right _ _ (by omega),hkl,Nat.add_sub_cancel_left,List.set_cons_succ,List.set_cons_zero]
      have hsw:=v6f (p:=l.take k) (q:=l.drop (k+2)) (x:=x) (y:=y) (by rw [←hsl]; exact h) htc
      rw [←hsl, ←hsm] at hsw
      obtain ⟨s1,s2,s3,s4⟩:=hsw
      have hdm:z4x ((l.set k y).set (k+1) x)=0:=(z72.1 s1).2.1
      have hml:((l.set k y).set (k+1) x).length=l.length:=by simp
      have hset:((l.map (eC fl)).set k [D.int .i64 y.n,D.int .i64 y.k,D.list (fl y.t) 1 (y.t.map eI),D.int .i64 y.a]).set (k+1) [D.int .i64 x.n,D.int .i64 x.k,D.list (fl x.t) 1 (x.t.map eI),D.int .i64 x.a]=((l.set k y).set (k+1) x).map (eC fl):=by
       simp [List.map_set,eC,z09]
      have ry2:((l.map (eC fl)).set k [D.int .i64 y.n,D.int .i64 y.k,D.list (fl y.t) 1 (y.t.map eI),D.int .i64 y.a])[k+1]?=some (eC fl y):=by rw [eFa (by omega),ry]
      have g46':=u0q (fl:=fl) l ((l.set k y).set (k+1) x) (z44 h) (z44 hdm)
      rw [s3] at g46'
      rcases u0p (fl:=fl) l ((l.set k y).set (k+1) x) (z44 h) (z44 hdm) with ⟨hx',_⟩|⟨_,hx',_⟩|⟨_,_,cs,g48',hC⟩
      ·exact absurd s1 hx'
      ·exact absurd s2 hx'
      ·have hcl:cs.length≤1000000:=by
        obtain ⟨c,mid,rfl,_,hm,_⟩:=hC
        simp; omega
       have g50:=u0o (fl:=fl) (fl':=fl) l ((l.set k y).set (k+1) x) (cs.map (·.n)) (z44 h) (z44 hdm) (by omega) (by omega) (by simpa using hcl)
       have g51:=u4w (fl:=fl) (fl':=fl) l ((l.set k y).set (k+1) x) (cs.map (·.n)) (z44 h) (z44 hdm) (by omega) (by omega) (by simpa using hcl)
       rw [v87 s1 hC] at g50 g51
       have g50':=u0o (fl:=fl) (fl':=fl) l ((l.set k y).set (k+1) x) [x.n,y.n,x.n] (z44 h) (z44 hdm) (by omega) (by omega) (by simp)
       rw [s4] at g50'
       have e3:z09 [x.n,y.n,x.n]=[[D.int .i64 x.n],[D.int .i64 y.n],[D.int .i64 x.n]]:=rfl
       rw [e3] at g50'
       have hFx:std.rdF (l.map (eC fl)) k 2 1=fl x.t:=u2h ‹_›
       have hFy:std.rdF (l.map (eC fl)) (k+1) 2 1=fl y.t:=u2h ‹_›
       have hmt:(((l.set k y).set (k+1) x).map (eC fl)).take l.length=((l.set k y).set (k+1) x).map (eC fl):=eDg (by simp)
       have hml2:(((l.set k y).set (k+1) x).map (eC fl)).length=l.length:=by simp
       have hns:((cs.map (·.n)).map eI).take cs.length=(cs.map (·.n)).map eI:=eDg (by simp)
       have hnl:((cs.map (·.n)).map eI).length=cs.length:=by simp
       simp only [z0p,z09] at g41 g46 g48 g29 g34 g52a g35a g52b g35b hle g44 k1 k2 g46' g48' g50 g51 g50'
       rcases first with ⟨e1,e2⟩|⟨e1,e2⟩
       ·rw [e1,e2] at g46
        simp only [z2c,z2d,z0p,z09,z5r,y4u,z0p,z09,z38,Int.reduceLT,Int.reduceEq,Int.reduceLE,g41,hyl,hb',k1,k2,g46,g48,g29,tS,g34,g52a,g35a,g52b,g35b,hle,hs2',G16,eAp,eAk,eDd,eDc,z0,eAi,if_false,if_true,hx,hy,rx,ry,w1,w2,w3,w4,q1,q2,q3,q4,q5,q6,q7,q8,g44,List.drop_nil,List.take_nil,List.nil_append,hFx,hFy,hset,ry2,hmt,hml2,g46',g48',g50,g51,g50',hns,hnl]
       ·rw [e1] at g46
        rw [e2] at k2
        simp only [z2c,z2d,z0p,z09,z5r,y4u,z0p,z09,z38,Int.reduceLT,Int.reduceEq,Int.reduceLE,g41,hyl,hb',k1,k2,g46,g48,tS,hle,hs2',G16,eAp,eAk,eDd,eDc,z0,eAi,if_false,if_true,c16,hx,hy,rx,ry,w1,w2,w3,w4,q1,q2,q3,q4,q5,q6,q7,q8,g44,List.drop_nil,List.take_nil,List.nil_append,hFx,hFy,hset,ry2,hmt,hml2,g46',g48',g50,g51,g50',hns,hnl]
   ·exact absurd hx p2
 ·have hf:u2j l=false:=by simpa using hf
  rw [hf] at g41
  simp only [z2c,z2d,z38,Int.reduceLT,Int.reduceEq,Int.reduceLE,g41,G16]
end Go.Am
end
