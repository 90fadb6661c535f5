/- Texts of this claim. -/
import Derived.Test.YtejcgpekgbiooaaGreatDoorT13
import Derived.Test.YtejcgpekgbiooaaGreatDoorProg
import Derived.KernelRfl
set_option linter.unusedVariables false
set_option linter.unusedSimpArgs false
set_option linter.unusedSectionVars false
set_option maxRecDepth 100000
set_option maxHeartbeats 0
open Bool renaming eq_iff_iff → eCu,false_eq_true → eAi,not_eq_true' → eBy
open List renaming mem_cons_of_mem → eCm,mem_cons → eAz,mem_cons_self → eBq,mem_filter → eDa,length_cons → eBi,pairwise_cons → eBl,length_eq_zero_iff → eBn,idxOf_lt_length_iff → eDl,getElem_idxOf → eDq,pairwise_iff_getElem → eCa,mem_iff_getElem → eDj,mem_map → eBb,getElem?_map → eAg,getElem?_range → eDo,getElem?_eq_some_iff → eAd,length_take → eBv,getElem_mem → eCp,mem_of_getLast? → eDe,mem_append → eBj,mem_singleton → eBe,any_eq_true → eCz,mem_range → eBo,getD_eq_getElem?_getD → eCi,mem_of_getElem? → eAu
open Nat renaming le_refl → eAk
open Option renaming map_some → eBh
open Go.Proofs.Tryz renaming prog → PG
section
namespace Go.Am
def autoEnvD (own:List Nat) (P:Program):Env:=⟨w69 P,infoOf P,w8k P,w8j P,z3r P,fun g=>!x37 g own,true,false,fun _=>false,false,fun _=>none⟩
theorem autoEnvD_ok {own:List Nat} {P:Program} (hm:P.follows .mixedOrders=true):EnvOk P (autoEnvD own P) where
 ti:=fun t ti h=>x71 h
 gl:=fun _ _ h=>by first|exact h|cases h
 fn:=fun g i h=>y4d h
 code:=fun g pos c h=>h
 mixed:=hm
end Go.Am
end
section
namespace Go.Am.D12
theorem v6o (c d:Cd):tch c d=tch d c:=by
 rw [eCu,w32,w32]
 constructor<;>rintro ⟨x,h1,h2⟩<;>exact ⟨x,h2,h1⟩
theorem v3a {l:List Cd}:v2h l=none↔l=[]:=by
 cases l with
 |nil=>simp [v2h]
 |cons c l=>
  simp only [v2h,reduceCtorEq,iff_false]
  split
  ·simp
  ·split<;>simp
theorem z36 {l:List Cd} {c:Cd} (h:v2h l=some c):c∈l∧∀ d∈l,c.n≤d.n:=by
 induction l generalizing c with
 |nil=>cases h
 |cons x l ih=>
  simp only [v2h] at h
  split at h
  ·rename_i h0
   cases h
   have:=v3a.1 h0
   subst this
   simp
  ·rename_i d h0
   obtain ⟨h1,h2⟩:=ih h0
   split at h
   ·cases h
    refine ⟨eCm _ h1,fun e he=>?_⟩
    rcases eAz.1 he with rfl|he
    ·omega
    ·exact h2 e he
   ·cases h
    refine ⟨eBq,fun e he=>?_⟩
    rcases eAz.1 he with rfl|he
    ·omega
    ·have:=h2 e he; omega
theorem v7u {l:List Cd} {c:Cd} (hi:Inj l):v2h l=some c↔c∈l∧∀ d∈l,c.n≤d.n:=by
 refine ⟨z36,fun ⟨h1,h2⟩=>?_⟩
 cases h:v2h l with
 |none=>rw [v3a.1 h] at h1; cases h1
 |some d=>
  obtain ⟨h3,h4⟩:=z36 h
  have:=h2 d h3
  have:=h4 c h1
  rw [hi c h1 d h3 (by omega)]
section
variable (R:Cd→Cd→Bool)
theorem z26 {rem:List Cd} {c:Cd}:w7p R rem c=true↔∀ d∈rem,R d c=false:=by
 simp [w7p]
theorem v3i {rem:List Cd} {c:Cd} (hi:Inj rem):best R rem=some c↔c∈rem∧(∀ d∈rem,R d c=false)∧∀ d∈rem,(∀ e∈rem,R e d=false)→c.n≤d.n:=by
 unfold best
 rw [v7u (hi.sub fun x hx=>(eDa.1 hx).1)]
 simp only [eDa,z26]
 constructor
 ·rintro ⟨⟨h1,h2⟩,h3⟩
  exact ⟨h1,h2,fun d hd he=>h3 d ⟨hd,he⟩⟩
 ·rintro ⟨h1,h2,h3⟩
  exact ⟨⟨h1,h2⟩,fun d hd=>h3 d hd.1 hd.2⟩
theorem v4e {rem:List Cd}:best R rem=none↔∀ c∈rem,∃ d∈rem,R d c=true:=by
 unfold best
 rw [v3a,List.filter_eq_nil_iff]
 simp [w7p]
theorem v3s {R S:Cd→Cd→Bool} {r s:List Cd} (hi:Inj r) (hm:∀ x,x∈r↔x∈s) (hf:∀ x∈r,(∀ d∈r,R d x=false)↔(∀ d∈s,S d x=false)):best R r=best S s:=by
 have hj:Inj s:=hi.sub fun x hx=>(hm x).2 hx
 apply Option.ext
 intro c
 rw [v3i R hi,v3i S hj]
 constructor
 ·rintro ⟨h1,h2,h3⟩
  exact ⟨(hm c).1 h1,(hf c h1).1 h2,fun d hd he=>h3 d ((hm d).2 hd) ((hf d ((hm d).2 hd)).2 he)⟩
 ·rintro ⟨h1,h2,h3⟩
  have h1':=(hm c).2 h1
  exact ⟨h1',(hf c h1').2 h2,fun d hd he=>h3 d ((hm d).1 hd) ((hf d hd).1 he)⟩
theorem z33 {c d:Cd} {l:List Cd}:d∈rm c l↔d∈l∧d≠c:=by simp [rm]
theorem v36 {c:Cd} {l:List Cd} (hn:l.Nodup) (hc:c∈l):(rm c l).length+1=l.length:=by
 induction l with
 |nil=>cases hc
 |cons x l ih=>
  obtain ⟨hx,hn⟩:=List.nodup_cons.1 hn
  by_cases e:x=c
  ·subst e
   have:rm x (x::l)=l:=by
    simp only [rm,List.filter_cons,decide_true,Bool.not_true,eAi,if_false]
    rw [List.filter_eq_self]
    intro d hd
    have:d≠x:=fun e=>hx (e▸hd)
    simp [this]
   rw [this]; rfl
  ·have hc':c∈l:=by
    rcases eAz.1 hc with h|h
    ·exact absurd h.symm e
    ·exact h
   have:=ih hn hc'
   have e2:rm c (x::l)=x::rm c l:=by simp [rm,List.filter_cons,e]
   rw [e2,eBi,eBi,this]
theorem v3x (f:Nat) (rem:List Cd):∀ x∈lst R f rem,x∈rem:=by
 induction f generalizing rem with
 |zero=>intro x hx; cases hx
 |succ f ih=>
  intro x hx
  simp only [lst] at hx
  split at hx
  ·cases hx
  ·rename_i c hb
   rcases eAz.1 hx with rfl|hx
   ·exact (eDa.1 (z36 hb).1).1
   ·exact (z33.1 (ih _ x hx)).1
theorem v4d {R:Cd→Cd→Bool} {l:List Cd} (h:Lin R l) (hne:l≠[]):∃ c,best R l=some c:=by
 cases hb:best R l with
 |some c=>exact ⟨c,rfl⟩
 |none=>
  exfalso
  cases l with
  |nil=>exact hne rfl
  |cons x l=>
   obtain ⟨d,hd,hr⟩:=(v4e R).1 hb x eBq
   rcases eAz.1 hd with rfl|hd
   ·rw [h.2 d eBq] at hr; cases hr
   ·rw [(eBl.1 h.1).1 d hd] at hr; cases hr
theorem v7w {R:Cd→Cd→Bool} {l:List Cd} (h:Lin R l) (hn:l.Nodup):∀ x,x∈lst R l.length l↔x∈l:=by
 intro x
 refine ⟨v3x R _ _ x,?_⟩
 generalize hf:l.length=f
 induction f generalizing l with
 |zero=>intro hx; rw [eBn.1 hf] at hx; cases hx
 |succ f ih=>
  intro hx
  obtain ⟨c,hb⟩:=v4d h (fun e=>by rw [e] at hf; cases hf)
  have hc:c∈l:=(eDa.1 (z36 hb).1).1
  simp only [lst,hb]
  by_cases e:x=c
  ·rw [e]; exact eBq
  ·refine eCm _ (ih (h.filter _) (hn.sublist List.filter_sublist) ?_ (z33.2 ⟨hx,e⟩))
   have:=v36 hn hc
   show (rm c l).length=f
   omega
theorem v54 {f:Nat} {l:List Cd}:(lst R f l).Nodup:=by
 induction f generalizing l with
 |zero=>exact List.nodup_nil
 |succ f ih=>
  simp only [lst]
  split
  ·exact List.nodup_nil
  ·rename_i c hb
   refine List.nodup_cons.2 ⟨fun h=>?_,ih⟩
   exact (z33.1 (v3x R _ _ _ h)).2 rfl
theorem v7x {R:Cd→Cd→Bool} {f:Nat} {l:List Cd} (hirr:∀ x∈l,R x x=false):Lin R (lst R f l):=by
 refine ⟨?_,fun x hx=>hirr x (v3x R _ _ x hx)⟩
 induction f generalizing l with
 |zero=>exact List.Pairwise.nil
 |succ f ih=>
  simp only [lst]
  split
  ·exact List.Pairwise.nil
  ·rename_i c hb
   have hm:=eDa.1 (z36 hb).1
   refine List.Pairwise.cons (fun y hy=>?_) (ih fun x hx=>hirr x (z33.1 hx).1)
   exact (z26 R).1 hm.2 y (z33.1 (v3x R _ _ y hy)).1
theorem v29 {l m:List Cd} (h1:l.Nodup) (h2:m.Nodup) (h:∀ x,x∈l↔x∈m):l.Perm m:=(List.perm_ext_iff_of_nodup h1 h2).2 h
theorem v6t {R:Cd→Cd→Bool} {l:List Cd} (h:Lin R l) (hn:l.Nodup):(lst R l.length l).Perm l:=v29 (v54 R) hn (v7w h hn)
theorem v55 {R S:Cd→Cd→Bool} (f:Nat) {r s:List Cd} (hi:Inj r) (hm:∀ x,x∈r↔x∈s) (hR:∀ x∈r,∀ y∈r,R x y=S x y):lst R f r=lst S f s:=by
 induction f generalizing r s with
 |zero=>rfl
 |succ f ih=>
  simp only [lst]
  have hb:best R r=best S s:=v3s hi hm fun x hx=>
   ⟨fun h d hd=>by rw [←hR d ((hm d).2 hd) x hx]; exact h d ((hm d).2 hd),fun h d hd=>by rw [hR d hd x hx]; exact h d ((hm d).1 hd)⟩
  rw [hb]
  split
  ·rfl
  ·rename_i c _
   congr 1
   exact ih (hi.sub fun x hx=>(z33.1 hx).1) (fun x=>by rw [z33,z33,hm x]) fun x hx y hy=>hR x (z33.1 hx).1 y (z33.1 hy).1
theorem v4b {R S:Cd→Cd→Bool} (l0:List Cd) (h1:∀ x∈l0,∀ y∈l0,R x y=true→S x y=true) (h2:∀ x∈l0,∀ y∈l0,S x y=true→R x y=true∨∃ z∈l0,S x z=true∧R z y=true) (hi:Inj l0):
  ∀ (f:Nat) (rem:List Cd),(∀ x∈rem,x∈l0)→(∀ x∈l0,∀ y∈l0,y∉rem→S x y=true→x∉rem)→lst R f rem=lst S f rem
 |0,_,_,_=>rfl
 |f+1,rem,hs,hc=>by
  simp only [lst]
  have hfree:∀ x∈rem,(∀ d∈rem,R d x=false)↔(∀ d∈rem,S d x=false):=by
   intro x hx
   constructor
   ·intro h d hd
    cases hS:S d x with
    |false=>rfl
    |true=>
     exfalso
     rcases h2 d (hs d hd) x (hs x hx) hS with hr|⟨z,hz,hz1,hz2⟩
     ·rw [h d hd] at hr; cases hr
     ·have hzn:z∉rem:=fun hzr=>by rw [h z hzr] at hz2; cases hz2
      exact hc d (hs d hd) z hz hzn hz1 hd
   ·intro h d hd
    cases hR:R d x with
    |false=>rfl
    |true=>have:=h1 d (hs d hd) x (hs x hx) hR; rw [h d hd] at this; cases this
  have hb:best R rem=best S rem:=v3s (hi.sub hs) (fun _=>Iff.rfl) hfree
  rw [hb]
  split
  ·rfl
  ·rename_i c hbc
   have hm:=eDa.1 (z36 hbc).1
   congr 1
   refine v4b l0 h1 h2 hi f _ (fun x hx=>hs x (z33.1 hx).1) ?_
   intro x hx y hy hyn hS hxr
   obtain ⟨hxq,hxc⟩:=z33.1 hxr
   by_cases hyc:y=c
   ·subst hyc
    rw [(z26 S).1 hm.2 x hxq] at hS
    cases hS
   ·exact hc x hx y hy (fun h=>hyn (z33.2 ⟨h,hyc⟩)) hS hxq
end
end Go.Am.D12
end
section
namespace Go.Am.D12
theorem v70 {l:List Cd} {x y:Cd} (hx:x∈l) (h:l.idxOf x=l.idxOf y):x=y:=by
 have h1:=eDl.2 hx
 have h2:l.idxOf y<l.length:=by omega
 have a:=eDq h1
 have b:=eDq h2
 rw [←a, ←b]; congr 1
theorem v8r {P:Cd→Cd→Prop} {l:List Cd} (hp:l.Pairwise P) {x y:Cd} (hx:x∈l) (hy:y∈l) (h:l.idxOf x<l.idxOf y):P x y:=by
 have h1:=eDl.2 hx
 have h2:=eDl.2 hy
 have:=eCa.1 hp _ _ h1 h2 h
 rwa [eDq,eDq] at this
theorem v4k {l:List Cd} (hn:l.Nodup):Lin (ord l) l:=by
 refine ⟨x7h hn fun x _ y _ h=>?_,fun x _=>?_⟩
 ·have:¬ l.idxOf y<l.idxOf x:=by omega
  simp [ord,this]
 ·simp [ord]
theorem z76 {l:List Cd} {x y:Cd} (hx:x∈l) (hne:x≠y) (h:tch x y=true):ord l x y=true∨ord l y x=true:=by
 rw [x2a,x2a,v6o y x]
 have:l.idxOf x≠l.idxOf y:=fun e=>hne (v70 hx e)
 rcases Nat.lt_or_gt_of_ne this with h1|h1
 ·exact .inl ⟨h,h1⟩
 ·exact .inr ⟨h,h1⟩
theorem v4u {l:List Cd} {x y:Cd} (h:ord l x y=true):x≠y:=fun e=>by
 have:=(x2a.1 h).2; rw [e] at this; omega
theorem v5i {a m:List Cd} (hp:a.Perm m) (hn:a.Nodup) (hl:Lin (ord a) m):Eqv a m:=by
 have hm:m.Nodup:=hp.nodup_iff.1 hn
 have key:∀ x∈a,∀ y∈a,ord a x y=true→ord m x y=true:=fun x hx y hy h=>by
  rcases z76 (l:=m) (hp.mem_iff.1 hx) (v4u h) (x2a.1 h).1 with h1|h1
  ·exact h1
  ·have:=v8r hl.1 (hp.mem_iff.1 hy) (hp.mem_iff.1 hx) (x2a.1 h1).2
   rw [h] at this; cases this
 refine ⟨hp,fun x hx y hy=>?_⟩
 cases h:ord a x y with
 |true=>exact (key x hx y hy h).symm
 |false=>
  cases h1:ord m x y with
  |false=>rfl
  |true=>
   rcases z76 hx (v4u h1) (x2a.1 h1).1 with h2|h2
   ·rw [h] at h2; cases h2
   ·have:=x7q (key y hy x hx h2); rw [h1] at this; cases this
def z21 (l:List Cd):List Cd:=lst (ord l) l.length l
theorem z28 {l:List Cd} (hn:l.Nodup):Eqv l (z21 l):=
 v5i (v6t (v4k hn) hn).symm hn (v7x (v4k hn).2)
theorem v3y {a b:List Cd} (hi:Inj a) (h:Eqv a b):z21 a=z21 b:=by
 unfold z21
 rw [h.1.length_eq]
 exact v55 _ hi (fun x=>h.1.mem_iff) h.2
theorem v31 {a b:List Cd} (hi:Inj a) (ha:a.Nodup) (hp:a.Perm b):z21 a=z21 b↔Eqv a b:=by
 refine ⟨fun h=>?_,v3y hi⟩
 exact (z28 ha).trans (h▸(z28 (hp.nodup_iff.1 ha)).symm)
theorem v8v {p q:List Cd} {x:Cd} (hx:x∉p):(p++x::q).idxOf x=p.length:=by
 rw [List.idxOf_append,if_neg hx]; simp
end Go.Am.D12
end
section
namespace Go.Am.D12
theorem v4m {c:Cd}:z3d c=0↔z6x c.n∧z3a c.k≠0∧c.t.length=z3a c.k∧(∀ x∈c.t,z6x x)∧c.t.Nodup∧w1p c.k c.a:=by
 unfold z3d
 constructor
 ·intro h
  repeat' split at h
  all_goals first|(exfalso; omega)|skip
  rename_i h1 h2 h3 h4 h5
  simp only [not_or,Decidable.not_not] at h1 h2 h4 h5
  refine ⟨h1.1,h1.2,h2,fun x hx=>Decidable.byContradiction fun hn=>h3 ⟨x,hx,hn⟩,h4,h5⟩
 ·rintro ⟨h1,h2,h3,h4,h5,h6⟩
  rw [if_neg (by simp only [not_or,Decidable.not_not]; exact ⟨h1,h2⟩),if_neg (by simpa using h3),if_neg (by rintro ⟨x,hx,hn⟩; exact hn (h4 x hx)),if_neg (by simpa using h5),if_neg (by simpa using h6)]
theorem z75 {l:List Cd}:z4y l=0↔l.length≤60∧(∀ c∈l,z3d c=0)∧(l.map (·.n)).Nodup:=by
 unfold z4y
 split
 ·constructor
  ·intro h; omega
  ·intro h; omega
 ·rename_i hlen
  split
  ·rename_i c hc
   have h1:=List.find?_some hc
   have h2:=List.mem_of_find?_eq_some hc
   simp at h1
   constructor
   ·intro h; exact absurd h h1
   ·intro h; exact absurd (h.2.1 c h2) h1
  ·rename_i hc
   rw [List.find?_eq_none] at hc
   have hc':∀ c∈l,z3d c=0:=fun c h=>by simpa using hc c h
   split
   ·rename_i hn; exact ⟨fun _=>⟨by omega,hc',hn⟩,fun _=>rfl⟩
   ·rename_i hn; exact ⟨fun h=>by omega,fun h=>absurd h.2.2 hn⟩
theorem z32 {l:List Cd} (h:(l.map (·.n)).Nodup):l.Nodup:=by
 rw [List.nodup_iff_pairwise_ne] at h⊢
 rw [List.pairwise_map] at h
 exact h.imp fun h e=>h (by rw [e])
theorem z24 {l:List Cd} (h:(l.map (·.n)).Nodup):Inj l:=by
 intro x hx y hy e
 obtain ⟨i,hi,rfl⟩:=eDj.1 hx
 obtain ⟨j,hj,rfl⟩:=eDj.1 hy
 have:=(List.getElem_inj (xs:=l.map (·.n)) (i:=i) (j:=j) (h₀:=by simpa using hi) (h₁:=by simpa using hj) h).1 (by simpa using e)
 subst this; rfl
def fnd (b:List Th) (x:Int):Option Th:=b.find? fun t=>decide (t.num=x)
theorem v38 (x:Int) (p q:List Cd):on x (p++q)=on x p++on x q:=by simp [on]
theorem v50 {x:Int} {e:Cd} (h:x∈e.t) (q:List Cd):on x (e::q)=e::on x q:=by simp [on,h]
theorem v4v {x:Int} {p:List Cd} {c:Cd} (h:c∈on x p):c∈p:=(x3y.1 h).1
end Go.Am.D12
end
section
namespace Go.Am.D12
def mxs (F:Cd→Nat):List Cd→Nat
 |[]=>0
 |c::l=>max (F c) (mxs F l)
theorem v3p {F:Cd→Nat} {l:List Cd} {m:Nat}:mxs F l≤m↔∀ c∈l,F c≤m:=by
 induction l with
 |nil=>simp [mxs]
 |cons c l ih=>simp only [mxs,Nat.max_le,ih,eAz,forall_eq_or_imp]
theorem z70 {F:Cd→Nat} {l:List Cd} {c:Cd} (h:c∈l):F c≤mxs F l:=v3p.1 (eAk _) c h
theorem v5g (F:Cd→Nat) (p q:List Cd):mxs F (p++q)=max (mxs F p) (mxs F q):=by
 induction p with
 |nil=>simp [mxs]
 |cons c p ih=>simp only [List.cons_append,mxs,ih]; omega
theorem z44 {F G:Cd→Nat} {l m:List Cd} (hm:∀ x,x∈l↔x∈m) (h:∀ x∈l,F x=G x):mxs F l=mxs G m:=by
 apply Nat.le_antisymm
 ·exact v3p.2 fun c hc=>by rw [h c hc]; exact z70 ((hm c).1 hc)
 ·exact v3p.2 fun c hc=>by rw [←h c ((hm c).2 hc)]; exact z70 ((hm c).2 hc)
def Rd (l:List Cd) (F:Cd→Nat):Prop:=∀ c∈l,F c=mxs F (l.filter fun d=>ord l d c)+1
def rdk (l:List Cd):Nat→Cd→Nat
 |0,_=>0
 |k+1,c=>mxs (rdk l k) (l.filter fun d=>ord l d c)+1
def v26 (l:List Cd):Cd→Nat:=rdk l l.length
theorem v22 (l:List Cd):∀ (i k:Nat) (c:Cd),c∈l→l.idxOf c≤i→i<k→rdk l k c=rdk l (i+1) c:=by
 intro i
 induction i using Nat.strongRecOn with
 |_ i ih=>
  intro k c hc hi hk
  cases k with
  |zero=>omega
  |succ k=>
   simp only [rdk]
   congr 1
   refine z44 (fun _=>Iff.rfl) fun d hd=>?_
   have ho:=(x2a.1 (eDa.1 hd).2).2
   have hdl:=(eDa.1 hd).1
   have a:=ih (l.idxOf d) (by omega) k d hdl (eAk _) (by omega)
   have b:=ih (l.idxOf d) (by omega) i d hdl (eAk _) (by omega)
   rw [a,b]
theorem v3v (l:List Cd):Rd l (v26 l):=by
 intro c hc
 have hlt:=eDl.2 hc
 have h:=v22 l (l.idxOf c) l.length c hc (eAk _) hlt
 unfold v26
 rw [h]
 show mxs _ _+1=_
 congr 1
 refine z44 (fun _=>Iff.rfl) fun d hd=>?_
 have ho:=(x2a.1 (eDa.1 hd).2).2
 have hdl:=(eDa.1 hd).1
 rw [v22 l (l.idxOf d) (l.idxOf c) d hdl (eAk _) ho,v22 l (l.idxOf d) l.length d hdl (eAk _) (by omega)]
theorem v7s {l:List Cd} {F G:Cd→Nat} (hF:Rd l F) (hG:Rd l G):∀ c∈l,F c=G c:=by
 have key:∀ (i:Nat) (c:Cd),c∈l→l.idxOf c=i→F c=G c:=by
  intro i
  induction i using Nat.strongRecOn with
  |_ i ih=>
   intro c hc hi
   rw [hF c hc,hG c hc]
   congr 1
   refine z44 (fun _=>Iff.rfl) fun d hd=>?_
   have ho:=(x2a.1 (eDa.1 hd).2).2
   exact ih _ (by omega) d (eDa.1 hd).1 rfl
 exact fun c hc=>key _ c hc rfl
theorem v8q {a b:List Cd} (h:Eqv a b) {F:Cd→Nat} (hF:Rd a F):Rd b F:=by
 intro c hc
 have hc':=h.1.mem_iff.2 hc
 rw [hF c hc']
 congr 1
 refine z44 (fun d=>?_) fun _ _=>rfl
 simp only [eDa]
 constructor
 ·rintro ⟨h1,h2⟩; exact ⟨h.1.mem_iff.1 h1,by rw [←h.2 d h1 c hc']; exact h2⟩
 ·rintro ⟨h1,h2⟩; have h1':=h.1.mem_iff.2 h1; exact ⟨h1',by rw [h.2 d h1' c hc']; exact h2⟩
theorem v5x {l:List Cd} {F:Cd→Nat} (hF:Rd l F) {c d:Cd} (hd:d∈l) (hc:c∈l) (h:ord l d c=true):F d<F c:=by
 rw [hF c hc]
 exact Nat.lt_succ_of_le (z70 (eDa.2 ⟨hd,h⟩))
theorem v8p {l:List Cd} {F:Cd→Nat} (hF:Rd l F) {c:Cd} (hc:c∈l):0<F c:=by rw [hF c hc]; omega
def v24 (l:List Cd) (F:Cd→Nat) (m:Nat):List Int:=srt ((l.filter fun c=>decide (F c=m)).map (·.n))
def z20 (l:List Cd):List (List Int):=(List.range (mxs (v26 l) l)).map fun m=>v24 l (v26 l) (m+1)
theorem v4r {l:List Cd} {F:Cd→Nat} {m:Nat} {x:Int}:x∈v24 l F m↔∃ c∈l,F c=m∧c.n=x:=by
 unfold v24
 rw [(srt_perm _).mem_iff,eBb]
 constructor
 ·rintro ⟨c,hc,rfl⟩
  have:=eDa.1 hc
  exact ⟨c,this.1,by simpa using this.2,rfl⟩
 ·rintro ⟨c,h1,h2,rfl⟩
  exact ⟨c,eDa.2 ⟨h1,by simpa using h2⟩,rfl⟩
theorem v3n {a b:List Cd} {F G:Cd→Nat} (hp:a.Perm b) (h:∀ c∈a,F c=G c) (m:Nat):v24 a F m=v24 b G m:=by
 unfold v24
 refine x69 (List.Perm.map _ ?_)
 have:(a.filter fun c=>decide (F c=m))=a.filter fun c=>decide (G c=m):=List.filter_congr fun c hc=>by rw [h c hc]
 rw [this]
 exact hp.filter _
theorem v28 {l:List Cd} {F:Cd→Nat} (hF:Rd l F):z20 l=(List.range (mxs F l)).map fun m=>v24 l F (m+1):=by
 have h:=v7s (v3v l) hF
 unfold z20
 rw [z44 (fun _=>Iff.rfl) h]
 exact List.map_congr_left fun m _=>v3n (.refl _) h _
theorem v5f {a b:List Cd} (h:Eqv a b):z20 a=z20 b:=by
 have hF:=v3v a
 rw [v28 hF,v28 (v8q h hF),z44 (fun _=>h.1.mem_iff) fun _ _=>rfl]
 exact List.map_congr_left fun m _=>v3n h.1 (fun _ _=>rfl) _
theorem v30 {a b:List Cd} (hi:Inj a) (ha:a.Nodup) (hp:a.Perm b) (h:z20 a=z20 b):Eqv a b:=by
 have hlen:mxs (v26 a) a=mxs (v26 b) b:=by simpa [z20] using congrArg List.length h
 have hF:∀ c∈a,v26 a c=v26 b c:=by
  intro c hc
  have hpos:=v8p (v3v a) hc
  have hle:=z70 (F:=v26 a) hc
  have hr:v24 a (v26 a) (v26 a c)=v24 b (v26 b) (v26 a c):=by
   have:=congrArg (fun l=>l[v26 a c - 1]?) h
   simp only [z20,eAg,eDo (show v26 a c - 1<mxs (v26 a) a by omega),eDo (show v26 a c - 1<mxs (v26 b) b by omega),eBh,Option.some.injEq] at this
   rwa [show v26 a c - 1+1=v26 a c by omega] at this
  have hm:c.n∈v24 b (v26 b) (v26 a c):=by rw [←hr]; exact v4r.2 ⟨c,hc,rfl,rfl⟩
  obtain ⟨d,hd,he,hn⟩:=v4r.1 hm
  have:d=c:=hi d (hp.mem_iff.2 hd) c hc hn
  rw [←this,he,this]
 refine ⟨hp,fun x hx y hy=>?_⟩
 have hb:b.Nodup:=hp.nodup_iff.1 ha
 have key:∀ x∈a,∀ y∈a,ord a x y=true→ord b x y=true:=fun x hx y hy h=>by
  have h1:=v5x (v3v a) hx hy h
  rw [hF x hx,hF y hy] at h1
  rcases z76 (l:=b) (hp.mem_iff.1 hx) (v4u h) (x2a.1 h).1 with h2|h2
  ·exact h2
  ·have:=v5x (v3v b) (hp.mem_iff.1 hy) (hp.mem_iff.1 hx) h2; omega
 have key2:∀ x∈a,∀ y∈a,ord b x y=true→ord a x y=true:=fun x hx y hy h=>by
  have h1:=v5x (v3v b) (hp.mem_iff.1 hx) (hp.mem_iff.1 hy) h
  rw [←hF x hx, ←hF y hy] at h1
  rcases z76 (l:=a) hx (v4u h) (x2a.1 h).1 with h2|h2
  ·exact h2
  ·have:=v5x (v3v a) hy hx h2; omega
 rw [eCu]
 exact ⟨key x hx y hy,key2 x hx y hy⟩
end Go.Am.D12
end
section
namespace Go.Am
section
variable (es l:List (List D)) (i j a b n:Nat) (x y:Int) (c d:Bool)
theorem v4j:std.cmp .eql x y=decide (x=y):=rfl
theorem v5d:std.ar .quo .i64 x y=IntKind.i64.wrap (x.tdiv y):=rfl
theorem v21:std.ar .rem .i64 x y=x.tmod y:=rfl
end
end Go.Am
namespace Go.Am
theorem v43 {α:Type} {l:List α} {i:Nat} {m:α} (h:l[i]?=some m):l.drop i=m::l.drop (i+1):=by
 obtain ⟨h1,h2⟩:=eAd.1 h
 rw [List.drop_eq_getElem_cons h1,h2]
end Go.Am
end
section
namespace Go.Am.D12
theorem Tc.last {B:Cd→Cd→Bool} {x y:Cd} (h:Tc B x y):B x y=true∨∃ z,Tc B x z∧B z y=true:=by
 cases h with
 |one h=>exact .inl h
 |step h k=>exact .inr ⟨_,h,k⟩
theorem v37 {l p r:List Cd} {c:Cd} (h:l=p++c::r) (hc:c∉p):pre l c=p:=by
 subst h
 unfold pre
 rw [v8v hc]; simp
theorem v3w {l:List Cd} {c d:Cd} (hd:d∈l):d∈pre l c↔l.idxOf d<l.idxOf c:=by
 unfold pre
 constructor
 ·intro h
  obtain ⟨i,hi,he⟩:=eDj.1 h
  have hi':=hi
  rw [eBv] at hi
  rw [List.getElem_take] at he
  have:l.idxOf d≤i:=by
   refine Nat.le_of_not_lt fun hlt=>?_
   have:=List.not_of_lt_findIdx (p:=(· ==d)) (xs:=l) (i:=i) hlt
   rw [he] at this
   simp at this
  omega
 ·intro h
  have hlt:=eDl.2 hd
  have e:(l.take (l.idxOf c))[l.idxOf d]'(by rw [eBv]; omega)=d:=by
   rw [List.getElem_take,eDq]
  exact e▸eCp _
def ltc (l:List Cd) (d c:Cd):Bool:=decide (c∈l)&&c.t.any fun x=>decide ((on x (pre l c)).getLast?=some d)
theorem z72 {l:List Cd} {d c:Cd}:ltc l d c=true↔c∈l∧∃ x∈c.t,(on x (pre l c)).getLast?=some d:=by simp [ltc]
theorem v5y {l:List Cd} {c d:Cd} (h:d∈pre l c):d∈l:=List.mem_of_mem_take h
theorem v53 {l:List Cd} {d c:Cd} (h:ltc l d c=true):ord l d c=true∧d∈l:=by
 obtain ⟨hc,x,hx,hl⟩:=z72.1 h
 have hd:=eDe hl
 have hdp:=x3y.1 hd
 have hdl:=v5y hdp.1
 exact ⟨x2a.2 ⟨w32.2 ⟨x,hdp.2,hx⟩,(v3w hdl).1 hdp.1⟩,hdl⟩
theorem v7t {l:List Cd} (hn:l.Nodup) {d c:Cd} (hd:d∈l) (hc:c∈l) (h:ord l d c=true):ltc l d c=true∨∃ z∈l,ord l d z=true∧ltc l z c=true:=by
 obtain ⟨ht,hlt⟩:=x2a.1 h
 obtain ⟨x,hxd,hxc⟩:=w32.1 ht
 have hdo:d∈on x (pre l c):=x3y.2 ⟨(v3w hd).2 hlt,hxd⟩
 cases hl:(on x (pre l c)).getLast? with
 |none=>rw [List.getLast?_eq_none_iff] at hl; rw [hl] at hdo; cases hdo
 |some z=>
  have hz:=eDe hl
  have hzl:=v5y (x3y.1 hz).1
  have hlz:ltc l z c=true:=z72.2 ⟨hc,x,hxc,hl⟩
  by_cases e:d=z
  ·subst e; exact .inl hlz
  ·right
   refine ⟨z,hzl,x2a.2 ⟨w32.2 ⟨x,hxd,(x3y.1 hz).2⟩,?_⟩,hlz⟩
   have hpw:(on x (pre l c)).Pairwise fun u v=>l.idxOf u<l.idxOf v:=((w29 hn).sublist (List.take_sublist _ _)).filter _
   obtain ⟨q,hq⟩:∃ q,on x (pre l c)=q++[z]:=⟨_,List.getLast?_eq_some_iff.1 hl|>.choose_spec⟩
   rw [hq] at hpw hdo
   rcases eBj.1 hdo with h1|h1
   ·exact (List.pairwise_append.1 hpw).2.2 d h1 z eBq
   ·exact absurd (eBe.1 h1) e
instance (a b:List Cd):Decidable (unkn a b):=inferInstanceAs (Decidable (∃ x,x∈w55 a b∧∃ y,y∈w55 a b∧x≠y∧tch x y=true∧kn a b x y=false∧kn a b y x=false))
instance (a b:List Cd):Decidable (circ a b):=inferInstanceAs (Decidable (∃ x,x∈w55 a b∧kn a b x x=true))
end Go.Am.D12
end
noncomputable section
namespace Go.Am
theorem vD : EnvOk PG (autoEnvD [] PG) := autoEnvD_ok follows_mixed
theorem vE1000003 : EnvOk PG (autoEnvE [1000003] PG) := autoEnvE_ok follows_mixed
theorem vE1000004 : EnvOk PG (autoEnvE [1000004] PG) := autoEnvE_ok follows_mixed

abbrev q0m : OT := .box [.int .i64, .int .i64, .list 1, .int .i64]
abbrev q1m : OT := .row [(CK.int .u64), (CK.int .u64)]
abbrev q2m : OT := .box [.sl 1 4, .map 2, .full 3 2]
abbrev q3m : OT := .box [.sl 2 4, .map 3, .full 4 2]
abbrev q4m : OT := .row [ci, ci, (CK.list 1), ci]
abbrev q5m : OT := .box [.sl 1 4, .map 2, .nils]
abbrev q6m : OT := .box [.int .u64, .int .u64]
abbrev q7m : OT := .row [(CK.list 1)]
abbrev q8m : OT := .box [.bptr 0 0]
abbrev q9m : OT := .box [.int .i64]
abbrev q10m : List OT := [q3m, .map, q4m, .map, q1m]
abbrev q11m : List OT := [q2m, q4m, .map, q1m]
abbrev q12m : List OT := [q5m, q4m, .map]
abbrev q13m : List OT := [.map, q7m, q0m]
abbrev tT := true
abbrev fF := false
abbrev W16w := (Int×Unit)
abbrev W2w := (Int×W16w)
abbrev W0w := (LD×(Int×(Int×(LD×W2w))))
abbrev W22w := (D×D)
abbrev W23w := (Int×(Int×W2w))
abbrev W11w := (Int×(Int×(Int×W23w)))
abbrev W1w := (LD×(List (W22w)×(LD×(LD×(Nat×(Nat×(Int×(Int×W11w))))))))
abbrev W3w := (List (W22w)×(LD×(List (W22w)×(LD×(Nat×(Nat×(Int×(LD×(Int×(Int×W0w))))))))))
abbrev W4w := (Bool×Unit)
abbrev W5w := (List (W22w)×(LD×(List (W22w)×(LD×(Nat×(Nat×W0w))))))
abbrev W6w := (LD×(LD×(LD×(LD×(Nat×(Nat×W16w))))))
abbrev W7w := (LD×(List (W22w)×(Nat×(Nat×(LD×W0w)))))
abbrev W8w := (LD×W16w)
abbrev W9w := (LD×(List (W22w)×(LD×(Nat×(Nat×Unit)))))
abbrev W10w := (LD×(List (W22w)×(LD×(LD×(Nat×(Nat×Unit))))))
abbrev W12w := (LD×Unit)
abbrev W13w := (LD×(LD×W2w))
abbrev W14w := (List (W22w)×(LD×(Int×(Int×(LD×(Int×(Int×W0w)))))))
abbrev W15w := (LD×(List (W22w)×(LD×(Nat×(Nat×(LD×W2w))))))
abbrev W17w := (LD×(LD×(LD×(LD×(Nat×(Nat×W2w))))))
abbrev W18w := (List (W22w)×(LD×(Int×(Int×W0w))))
abbrev W19w := (List (W22w)×(LD×W13w))
abbrev W20w := (List (W22w)×(LD×(Int×W0w)))
abbrev W21w := (LD×W12w)
abbrev W24w := (List (W22w)×(LD×W2w))
abbrev W25w := (Int×(Int×(LD×(Int×(Int×(Int×(LD×(Int×W4w))))))))
abbrev W26w := (Int×(Int×W8w))
abbrev W27w := (LD×(List (W22w)×(LD×(LD×(Nat×(Nat×W23w))))))
abbrev W28w := (LD×(List (W22w)×(LD×(LD×(Nat×(Nat×W11w))))))
abbrev W29w := (Int×(Int×(LD×(Int×(Int×(Int×(LD×W2w)))))))
abbrev W30w := (List (W22w)×W13w)
abbrev W31w := (List (W22w)×Unit)
abbrev W32w := (Nat×(Nat×W13w))
def v84:Ctr:=
 ⟨77,[.agg [.int .i64, .int .i64, .list 1, .int .i64], .agg [.int .i64, .int .i64, .list 1, .int .i64]],[],[(.ret,⟨[(0, .bool)],[],1⟩)]⟩
def la77:List LA:=
 [⟨77,[fF,tT,fF,tT,tT],0,⟨⟨[(2, .bptr 0 0),(3, .bptr 1 0),(5, .int .i64)],[q0m,q0m],52⟩,[(AX.ret,⟨[(4, .bool)],[],52⟩),((AX.exit 0),⟨[],[],52⟩)]⟩⟩]
def ja77:List JA:=
 [⟨77,[fF,fF,tT],0,[(AX.normal,⟨[(2, .bptr 0 0),(3, .bptr 1 0),(33, .bool)],[q0m,q0m],52⟩)]⟩]
def u0m:List CF:=
 []
def an77:Anns:=
 ⟨u0m,ja77,[]⟩
def v6h (p:Prim):W29w→Option (W29w⊕(W4w⊕Unit)):=
 fun a=>let A:=a.2.2.2.2.2.2.2.2.1;let B:=a.2.2.2.2.2.2.1;let C:=p.cmp .geq A (0:Int);let E:=p.nat A; opt.run _ (
 opt.ask _ (p.cmp .lss A (p.ofNat (p.len a.2.2.1))) (
 opt.need _ (p.rowOk a.2.2.1 E [ci])<|
 opt.need _ C<|
 opt.need _ (p.rowOk B E [ci])<|
 opt.need _ C<|
 opt.ask _ (p.cmp .neq (p.rdI a.2.2.1 E 0) (p.rdI B E 0)) (
 opt.ret _ (Sum.inr (Sum.inl (Bool.false,())))) (
 opt.ret _ (Sum.inl (a.1,(a.2.1,(a.2.2.1,(a.2.2.2.1,(a.2.2.2.2.1,(a.2.2.2.2.2.1,(B,(a.2.2.2.2.2.2.2.1,((p.ar .add .i64 A (1:Int)),())))))))))))) (
 opt.ret _ (Sum.inr (Sum.inr ()))))
def G77:(p:Prim)→(Int×(Int×(LD×(Int×W26w))))→Option (W4w):=
 fun p x=>let E:=x.2.2.2.2.2.1;let C:=x.2.2.2.2.2.2.1;let B:=x.2.2.2.2.2.2.2.1;let A:=(x.1,(x.2.1,(x.2.2.1,(x.2.2.2.1,(x.2.2.2.2.1,(E,(C,(B,(Bool.true,())))))))));
 opt.bnd (W25w) _ (
 opt.run (W25w) (
 opt.ask _ (p.cmp .neq x.1 x.2.2.2.2.1) (
 opt.ret _ A) (
 opt.ask _ (p.cmp .neq x.2.1 E) (
 opt.ret _ A) (
 opt.ask _ (p.cmp .neq x.2.2.2.1 B) (
 opt.ret _ A) (
 opt.ret _ (x.1,(x.2.1,(x.2.2.1,(x.2.2.2.1,(x.2.2.2.2.1,(E,(C,(B,((p.cmp .neq (p.ofNat (p.len x.2.2.1)) (p.ofNat (p.len C))),())))))))))))))) fun a=>
 opt.ask _ a.2.2.2.2.2.2.2.2.1 (
 opt.ret _ (Bool.false,())) (
 opt.alt (W4w) (Unit) _ (
 z5r (v6h p) (a.1,(a.2.1,(a.2.2.1,(a.2.2.2.1,(a.2.2.2.2.1,(a.2.2.2.2.2.1,(a.2.2.2.2.2.2.1,(a.2.2.2.2.2.2.2.1,((0:Int),())))))))))) (fun b=>
 opt.ret _ b) (fun c=>
 opt.bnd (Unit) _ (some c) fun d=>
 opt.ret _ (Bool.true,())))
theorem ok77:CtrOk PG v84 (G77 std):=okF vE (a:=an77) (l:=la77) (gN)
def v9a:Ctr:=
 ⟨34,[.list 4, .list 4],[],[(.ret,⟨[(0, .bool)],[],1⟩)]⟩
def la34:List LA:=
 [⟨34,[fF,tT,fF,tT,tT],0,⟨⟨[(0, .list 4),(1, .list 4),(5, .int .i64)],[],27⟩,[(AX.ret,⟨[(4, .bool)],[],27⟩),((AX.exit 0),⟨[],[],27⟩)]⟩⟩]
def ja34:List JA:=
 []
def u0v:List CF:=
 [⟨v84,G77⟩]
def an34:Anns:=
 ⟨u0v,ja34,[]⟩
def v79 (p:Prim):(LD×W8w)→Option ((LD×W8w)⊕(W4w⊕Unit)):=
 fun a=>let A:=p.nat a.2.2.1;let B:=p.cmp .geq a.2.2.1 (0:Int);let C:=[ci,ci,(CK.list 1),ci]; opt.run _ (
 opt.ask _ (p.cmp .lss a.2.2.1 (p.ofNat (p.len a.1))) (
 opt.need _ (p.rowOk a.1 A C)<|
 opt.need _ B<|
 opt.need _ (p.rowOk a.2.1 A C)<|
 opt.need _ B<|
 opt.bnd (W4w) _ (G77 p ((p.rdI a.1 A 0),((p.rdI a.1 A 1),((p.rdL a.1 A 2),((p.rdI a.1 A 3),((p.rdI a.2.1 A 0),((p.rdI a.2.1 A 1),((p.rdL a.2.1 A 2),((p.rdI a.2.1 A 3),()))))))))) fun b=>
 opt.ask _ (bif b.1 then Bool.false else Bool.true) (
 opt.ret _ (Sum.inr (Sum.inl (Bool.false,())))) (
 opt.ret _ (Sum.inl (a.1,(a.2.1,((p.ar .add .i64 a.2.2.1 (1:Int)),())))))) (
 opt.ret _ (Sum.inr (Sum.inr ()))))
def G34:(p:Prim)→W21w→Option (W4w):=
 fun p x=>
 opt.ask _ (p.cmp .neq (p.ofNat (p.len x.1)) (p.ofNat (p.len x.2.1))) (
 opt.ret _ (Bool.false,())) (
 opt.alt (W4w) (Unit) _ (
 z5r (v79 p) (x.1,(x.2.1,((0:Int),())))) (fun a=>
 opt.ret _ a) (fun b=>
 opt.bnd (Unit) _ (some b) fun c=>
 opt.ret _ (Bool.true,())))
theorem ok34:CtrOk PG v9a (G34 std):=okF vE (a:=an34) (l:=la34) (gC ok77 (gN))
def v85:Ctr:=
 ⟨76,[.list 1, .list 1],[],[(.ret,⟨[(0, .bool)],[],1⟩)]⟩
def la76:List LA:=
 [⟨76,[fF,tT,fF,tT,tT],0,⟨⟨[(0, .list 1),(1, .list 1),(5, .int .i64)],[],26⟩,[(AX.ret,⟨[(4, .bool)],[],26⟩),((AX.exit 0),⟨[],[],26⟩)]⟩⟩]
def ja76:List JA:=
 []
def u0n:List CF:=
 []
def an76:Anns:=
 ⟨u0n,ja76,[]⟩
def v78 (p:Prim):(LD×W8w)→Option ((LD×W8w)⊕(W4w⊕Unit)):=
 fun a=>let A:=p.nat a.2.2.1;let B:=p.cmp .geq a.2.2.1 (0:Int); opt.run _ (
 opt.ask _ (p.cmp .lss a.2.2.1 (p.ofNat (p.len a.1))) (
 opt.need _ (p.rowOk a.1 A [ci])<|
 opt.need _ B<|
 opt.need _ (p.rowOk a.2.1 A [ci])<|
 opt.need _ B<|
 opt.ask _ (p.cmp .neq (p.rdI a.1 A 0) (p.rdI a.2.1 A 0)) (
 opt.ret _ (Sum.inr (Sum.inl (Bool.false,())))) (
 opt.ret _ (Sum.inl (a.1,(a.2.1,((p.ar .add .i64 a.2.2.1 (1:Int)),())))))) (
 opt.ret _ (Sum.inr (Sum.inr ()))))
def G76:(p:Prim)→W21w→Option (W4w):=
 fun p x=>
 opt.ask _ (p.cmp .neq (p.ofNat (p.len x.1)) (p.ofNat (p.len x.2.1))) (
 opt.ret _ (Bool.false,())) (
 opt.alt (W4w) (Unit) _ (
 z5r (v78 p) (x.1,(x.2.1,((0:Int),())))) (fun a=>
 opt.ret _ a) (fun b=>
 opt.bnd (Unit) _ (some b) fun c=>
 opt.ret _ (Bool.true,())))
theorem ok76:CtrOk PG v85 (G76 std):=okF vE (a:=an76) (l:=la76) (gN)
def v9b:Ctr:=
 ⟨33,[.list 1, .list 1],[],[(.ret,⟨[(0, .bool)],[],1⟩)]⟩
def la33:List LA:=
 [⟨33,[fF,tT,fF,tT,tT],0,⟨⟨[(0, .list 1),(1, .list 1),(5, .int .i64)],[],27⟩,[(AX.ret,⟨[(4, .bool)],[],27⟩),((AX.exit 0),⟨[],[],27⟩)]⟩⟩]
def ja33:List JA:=
 []
def u0w:List CF:=
 [⟨v85,G76⟩]
def an33:Anns:=
 ⟨u0w,ja33,[]⟩
def v8a (p:Prim):(LD×W8w)→Option ((LD×W8w)⊕(W4w⊕Unit)):=
 fun a=>let A:=p.nat a.2.2.1;let B:=p.cmp .geq a.2.2.1 (0:Int); opt.run _ (
 opt.ask _ (p.cmp .lss a.2.2.1 (p.ofNat (p.len a.1))) (
 opt.need _ (p.rowOk a.1 A [(CK.list 1)])<|
 opt.need _ B<|
 opt.need _ (p.rowOk a.2.1 A [(CK.list 1)])<|
 opt.need _ B<|
 opt.bnd (W4w) _ (G76 p ((p.rdL a.1 A 0),((p.rdL a.2.1 A 0),()))) fun b=>
 opt.ask _ (bif b.1 then Bool.false else Bool.true) (
 opt.ret _ (Sum.inr (Sum.inl (Bool.false,())))) (
 opt.ret _ (Sum.inl (a.1,(a.2.1,((p.ar .add .i64 a.2.2.1 (1:Int)),())))))) (
 opt.ret _ (Sum.inr (Sum.inr ()))))
def G33:(p:Prim)→W21w→Option (W4w):=
 fun p x=>
 opt.ask _ (p.cmp .neq (p.ofNat (p.len x.1)) (p.ofNat (p.len x.2.1))) (
 opt.ret _ (Bool.false,())) (
 opt.alt (W4w) (Unit) _ (
 z5r (v8a p) (x.1,(x.2.1,((0:Int),())))) (fun a=>
 opt.ret _ a) (fun b=>
 opt.bnd (Unit) _ (some b) fun c=>
 opt.ret _ (Bool.true,())))
theorem ok33:CtrOk PG v9b (G33 std):=okF vE (a:=an33) (l:=la33) (gC ok76 (gN))
def F15:Prim→Tup (w8h).scs→Option (STup (scss (w8h).outs)):=
 fun p x=>G15 p x
def F20:Prim→Tup (w8f).scs→Option (STup (scss (w8f).outs)):=
 fun p x=>G20 p x
def v88:Ctr:=
 ⟨41,[.list 4],[],[(.ret,⟨[(0, .bool)],[],1⟩)]⟩
def la41:List LA:=
 []
def ja41:List JA:=
 [⟨41,[fF,tT],0,[(AX.normal,⟨[(2, .bool)],[],11⟩)]⟩]
def u0t:List CF:=
 [⟨w8f,F20⟩,⟨w8h,F15⟩]
def an41:Anns:=
 ⟨u0t,ja41,[]⟩
def G41:(p:Prim)→W12w→Option (W4w):=
 fun p x=>
 opt.bnd (W4w) _ (
 opt.run (W4w) (
 opt.bnd (W4w) _ (G15 p x) fun a=>
 opt.ask _ (bif a.1 then Bool.false else Bool.true) (
 opt.bnd (W16w) _ (G20 p x) fun b=>
 opt.ret _ ((p.cmp .eql b.1 (0:Int)),())) (
 opt.ret _ (Bool.false,())))) fun c=>
 opt.ret _ c
theorem ok41:CtrOk PG v88 (G41 std):=okF vE (a:=an41) (l:=la41) (gC ok20 (gC ok15 (gN)))
end Go.Am
end
section
namespace Go.Am
open D12
def eLf (fl:List Int→Bool) (l:List Int):List D:=[.list (fl l) 1 (z1a l)]
def z41 (fl:List Int→Bool) (d:List (List Int)):List (List D):=d.map (eLf fl)
variable {fl fl':List Int→Bool}
theorem v5u {fl:List Int→Bool} {l:List Cd} {i:Nat} {c:Cd} (h:l[i]?=some c):(l.map (eC fl))[i]?=some (eC fl c):=by
 rw [eAg,h]; rfl
theorem v95 {l:List Int} {i:Nat} {c:Int} (h:l[i]?=some c):(l.map eI)[i]?=some (eI c):=by
 rw [eAg,h]; rfl
theorem v96 {fl:List Int→Bool} {l:List Cd} {i:Nat} {c:Cd} (h:l[i]?=some c):std.rdF (l.map (eC fl)) i 2 1=fl c.t:=by
 show dF 1 (((l.map (eC fl))[i]?.bind fun r=>r[2]?).getD .nilp)=_
 rw [v5u h]; exact w79 c
theorem v6z (l:List Int):z3k [CK.list 1] (eLf fl l)=true:=rfl
theorem u1a (l:List Int):dL ((eLf fl l)[0]?.getD D.nilp)=z1a l:=rfl
theorem v4x {α:Type} [DecidableEq α] {a b:List α} (d:α) (h:a.length=b.length):((List.range a.length).any fun i=>!decide (a.getD i d=b.getD i d))=!decide (a=b):=by
 rw [eCu,eCz]
 simp only [eBy,decide_eq_false_iff_not,eBo]
 constructor
 ·rintro ⟨i,hi,hne⟩ rfl; exact hne rfl
 ·intro hne
  refine Decidable.byContradiction fun hno=>hne (List.ext_getElem h fun i h1 h2=>?_)
  have:=Decidable.byContradiction fun hh=>hno ⟨i,h1,hh⟩
  simpa [eCi,h1,h2] using this
theorem eqL {α:Type} [DecidableEq α] (ea eb:List α→List (List D)) (he:∀ l,(ea l).length=l.length) (hf:∀ l,(eb l).length=l.length)
  {b:(List (List D)×(List (List D)×(Int×Unit)))→Option ((List (List D)×(List (List D)×(Int×Unit)))⊕((Bool×Unit)⊕Unit))} (a c:List α) (d:α)
  (step:∀ (i:Nat) m m',a[i]?=some m→c[i]?=some m'→(i:Int)<a.length→(i:Int)<c.length→b (ea a,(eb c,((i:Int),())))=if (!decide (m=m'))=true then some (.inr (.inl (false,()))) else some (.inl (ea a,(eb c,(((i+1:Nat):Int),())))))
  (stop:¬ (a.length:Int)<a.length→b (ea a,(eb c,((a.length:Int),())))=some (.inr (.inr ()))):
  opt.ask _ (std.cmp .neq (std.ofNat (std.len (ea a))) (std.ofNat (std.len (eb c)))) (opt.ret _ (false,())) (opt.alt (Bool×Unit) Unit _ (z5r b (ea a,(eb c,((0:Int),())))) (fun y=>opt.ret _ (y.1,())) (fun y=>opt.bnd Unit _ (some y) fun _=>opt.ret _ (true,())))=some (decide (a=c),()):=by
 by_cases hl:a.length=c.length
 ·have key:=z9b (b:=b) a.length (fun i=>(ea a,(eb c,((i:Int),())))) (fun i=>!decide (a.getD i d=c.getD i d)) (.inl (false,())) (.inr ()) (fun i hi=>by
   obtain ⟨m,hm⟩:=z1v hi
   obtain ⟨m',hm'⟩:=z1v (l:=c) (i:=i) (by omega)
   rw [z2h hm,z2h hm']
   exact step i m m' hm hm' (by omega) (by omega)) (stop (by omega))
  have key:z5r b (ea a,(eb c,((0:Int),())))=_:=key
  rw [v4x d hl] at key
  have hc:std.cmp .neq (std.ofNat (std.len (ea a))) (std.ofNat (std.len (eb c)))=false:=by simp [std,z3o,he,hf,hl]
  rw [hc,key]
  by_cases e:a=c
  ·simp [e,opt]
  ·simp [e,opt]
 ·have hne:a≠c:=fun h=>hl (by rw [h])
  have hc:std.cmp .neq (std.ofNat (std.len (ea a))) (std.ofNat (std.len (eb c)))=true:=by simp [std,z3o,he,hf]; omega
  rw [hc]
  simp [hne,opt]
theorem v9o (a b:List Int) (ha:a.length≤1000000):G76 std (z1a a,(z1a b,()))=some (decide (a=b),()):=by
 unfold G76
 refine eqL z1a z1a z00 z00 a b 0 (fun i m m' hm hm' hlt hlb=>?_) (fun hn=>?_)
 ·obtain ⟨hw,h0⟩:=stp i (by omega)
  simp only [v78,z2d,z2e,z0p,z1a,z5s,y4y,z4b,Int.reduceLT,Int.reduceEq,Int.reduceLE,hm,hm',hlt,hlb,h0,hw]
 ·simp only [v78,z2d,z2e,z0p,z1a,z5s,y4y,hn]
theorem v42 (d:List (List Int)):(z41 fl d).length=d.length:=by simp [z41]
theorem v9w (a b:List (List Int)) (ha:a.length≤1000000) (hr:∀ l∈a,l.length≤1000000):G33 std (z41 fl a,(z41 fl' b,()))=some (decide (a=b),()):=by
 unfold G33
 refine eqL (z41 fl) (z41 fl') v42 v42 a b [] (fun i m m' hm hm' hlt hlb=>?_) (fun hn=>?_)
 ·obtain ⟨hw,h0⟩:=stp i (by omega)
  have h76:=v9o m m' (hr m (eAu hm))
  simp only [v8a,z2d,z2e,z41,v6z,u1a,z4b,Int.reduceLT,Int.reduceEq,Int.reduceLE,hm,hm',hlt,hlb,h0,hw,h76]
  by_cases e:m=m'<;>simp [e]
 ·simp only [v8a,z2d,z2e,z41,hn]
theorem v9n (c d:Cd) (hc:c.t.length≤1000000):G77 std (c.n,(c.k,(z1a c.t,(c.a,(d.n,(d.k,(z1a d.t,(d.a,()))))))))=some (decide (c=d),()):=by
 obtain ⟨n1,k1,t1,a1⟩:=c
 obtain ⟨n2,k2,t2,a2⟩:=d
 simp only at hc⊢
 unfold G77
 by_cases e1:n1=n2
 ·by_cases e2:k1=k2
  ·by_cases e3:a1=a2
   ·subst e1 e2 e3
    by_cases hl:t1.length=t2.length
    ·have key:=z9b (b:=v6h std) t1.length (fun i=>(n1,(k1,(z1a t1,(a1,(n1,(k1,(z1a t2,(a1,((i:Int),())))))))))) (fun i=>!decide (t1.getD i 0=t2.getD i 0)) (.inl (false,())) (.inr ()) (fun i hi=>by
      obtain ⟨m,hm⟩:=z1v hi
      obtain ⟨m',hm'⟩:=z1v (l:=t2) (i:=i) (by omega)
      obtain ⟨hw,h0⟩:=stp i (by omega)
      have hlt:(i:Int)<t1.length:=by omega
      have hlb:(i:Int)<t2.length:=by omega
      simp only [z2h hm,z2h hm',v6h,z2d,z2e,z0p,z1a,z5s,y4y,z4b,Int.reduceLT,Int.reduceEq,Int.reduceLE,hm,hm',hlt,hlb,h0,hw]) (by
      have hn:¬ (t1.length:Int)<t1.length:=by omega
      simp only [v6h,z2d,z2e,z0p,z1a,z5s,y4y,hn])
     have key:z5r (v6h std) (n1,(k1,(z1a t1,(a1,(n1,(k1,(z1a t2,(a1,((0:Int),())))))))))=_:=key
     rw [v4x 0 hl] at key
     have hll:((t1.length:Nat):Int)=(t2.length:Nat):=by omega
     simp only [z2d,z2e,z00,z4b,Int.reduceLT,Int.reduceEq,Int.reduceLE,hll,key]
     by_cases e:t1=t2<;>simp [e]
    ·have hne:t1≠t2:=fun h=>hl (by rw [h])
     have hll:¬ ((t1.length:Nat):Int)=(t2.length:Nat):=by omega
     simp only [z2d,z2e,z00,z4b,Int.reduceLT,Int.reduceEq,Int.reduceLE,hll,Cd.mk.injEq,hne]
     simp
   ·simp only [z2d,z2e,z4b,Int.reduceLT,Int.reduceEq,Int.reduceLE,e1,e2,e3,Cd.mk.injEq]
    simp
  ·simp only [z2d,z2e,z4b,Int.reduceLT,Int.reduceEq,Int.reduceLE,e1,e2,Cd.mk.injEq]
   simp
 ·simp only [z2d,z2e,z4b,Int.reduceLT,Int.reduceEq,Int.reduceLE,e1,Cd.mk.injEq]
  simp
theorem v9v (a b:List Cd) (ha:a.length≤1000000) (hr:∀ c∈a,c.t.length≤1000000):G34 std (z0p fl a,(z0p fl' b,()))=some (decide (a=b),()):=by
 unfold G34
 refine eqL (z0p fl) (z0p fl') z2i z2i a b default (fun i m m' hm hm' hlt hlb=>?_) (fun hn=>?_)
 ·obtain ⟨hw,h0⟩:=stp i (by omega)
  have h77:=v9n m m' (hr m (eAu hm))
  simp only [v79,z2d,z2e,z0p,z1a,z5s,y4y,z4b,Int.reduceLT,Int.reduceEq,Int.reduceLE,hm,hm',hlt,hlb,h0,hw]
  simp only [z1a] at h77
  simp only [h77,z2d,z2e]
  by_cases e:m=m'<;>simp [e]
 ·simp only [v79,z2d,z2e,z0p,z1a,z5s,y4y,hn]
end Go.Am
end
section
namespace Go.Am
def eY (n:Int):List D:=[.int .u8 n]
def v3k (l:List Int):List (List D):=l.map eY
theorem z59 (n:Int):z3k [CK.int IntKind.u8] (eY n)=true:=rfl
theorem v5j (n:Int):dI ((eY n)[0]?.getD D.nilp)=n:=rfl
theorem v6w (l:List Int):(v3k l).length=l.length:=by simp [v3k]
end Go.Am
end
