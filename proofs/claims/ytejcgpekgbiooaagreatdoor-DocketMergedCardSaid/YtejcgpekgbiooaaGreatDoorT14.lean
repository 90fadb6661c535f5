/- Texts of this claim. -/
import Derived.Test.YtejcgpekgbiooaaGreatDoorT13
import Derived.Test.YtejcgpekgbiooaaGreatDoorProg
import Derived.KernelRfl
set_option linter.unusedVariables false
set_option linter.unusedSimpArgs false
set_option linter.unusedSectionVars false
set_option maxRecDepth 100000
set_option maxHeartbeats 0
open Bool renaming eq_iff_iff → eCu,not_true → eDp,false_eq_true → eAi,or_eq_true → eAq,and_eq_true → eAb,not_eq_true' → eBy
open List renaming mem_cons_of_mem → eCm,mem_cons → eAz,mem_cons_self → eBq,mem_filter → eDa,nodup_cons → eDl,length_cons → eBi,pairwise_cons → eBl,length_eq_zero_iff → eBn,filter_sublist → eDq,idxOf_lt_length_iff → eFb,getElem_idxOf → eDi,pairwise_iff_getElem → eCa,find?_some → eDm,mem_of_find?_eq_some → eDe,find?_eq_none → eDj,mem_iff_getElem → eDb,getElem?_eq_some_iff → eAd,length_take → eBv,getElem_mem → eCp,mem_of_getLast? → eDx,mem_append → eBj,mem_singleton → eBe,mem_append_left → eDy,any_eq_false → eDo,nodup_append → eDv,mem_map → eBb,getElem?_map → eAg,any_eq_true → eCz,mem_range → eBo,getD_eq_getElem?_getD → eCi,mem_of_getElem? → eAu
open Nat renaming le_refl → eAk
open Go.Proofs.Tryz renaming prog → PG
section
namespace Go.Am
def autoEnvD (own:List Nat) (P:Program):Env:=⟨w6u P,infoOf P,w75 P,w74 P,z3o P,fun g=>!x3y g own,true,false,fun _=>false,false,fun _=>none⟩
theorem autoEnvD_ok {own:List Nat} {P:Program} (hm:P.follows .mixedOrders=true):EnvOk P (autoEnvD own P) where
 ti:=fun t ti h=>x7t h
 gl:=fun _ _ h=>by first|exact h|cases h
 fn:=fun g i h=>y39 h
 code:=fun g pos c h=>h
 mixed:=hm
end Go.Am
end
section
namespace Go.Am.D12
theorem v3d (c d:Cd):tch c d=tch d c:=by
 rw [eCu,w3o,w3o]
 constructor<;>rintro ⟨x,h1,h2⟩<;>exact ⟨x,h2,h1⟩
theorem v3i {l:List Cd}:v11 l=none↔l=[]:=by
 cases l with
 |nil=>simp [v11]
 |cons c l=>
  simp only [v11,reduceCtorEq,iff_false]
  split
  ·simp
  ·split<;>simp
theorem z53 {l:List Cd} {c:Cd} (h:v11 l=some c):c∈l∧∀ d∈l,c.n≤d.n:=by
 induction l generalizing c with
 |nil=>cases h
 |cons x l ih=>
  simp only [v11] at h
  split at h
  ·rename_i h0
   cases h
   have:=v3i.1 h0
   subst this
   simp
  ·rename_i d h0
   obtain ⟨h1,h2⟩:=ih h0
   split at h
   ·cases h
    refine ⟨eCm _ h1,fun e he=>?_⟩
    rcases eAz.1 he with rfl|he
    ·omega
    ·exact h2 e he
   ·cases h
    refine ⟨eBq,fun e he=>?_⟩
    rcases eAz.1 he with rfl|he
    ·omega
    ·have:=h2 e he; omega
theorem u0y {l:List Cd} {c:Cd} (hi:Inj l):v11 l=some c↔c∈l∧∀ d∈l,c.n≤d.n:=by
 refine ⟨z53,fun ⟨h1,h2⟩=>?_⟩
 cases h:v11 l with
 |none=>rw [v3i.1 h] at h1; cases h1
 |some d=>
  obtain ⟨h3,h4⟩:=z53 h
  have:=h2 d h3
  have:=h4 c h1
  rw [hi c h1 d h3 (by omega)]
section
variable (R:Cd→Cd→Bool)
theorem z33 {rem:List Cd} {c:Cd}:w7b R rem c=true↔∀ d∈rem,R d c=false:=by
 simp [w7b]
theorem v3r {rem:List Cd} {c:Cd} (hi:Inj rem):best R rem=some c↔c∈rem∧(∀ d∈rem,R d c=false)∧∀ d∈rem,(∀ e∈rem,R e d=false)→c.n≤d.n:=by
 unfold best
 rw [u0y (hi.sub fun x hx=>(eDa.1 hx).1)]
 simp only [eDa,z33]
 constructor
 ·rintro ⟨⟨h1,h2⟩,h3⟩
  exact ⟨h1,h2,fun d hd he=>h3 d ⟨hd,he⟩⟩
 ·rintro ⟨h1,h2,h3⟩
  exact ⟨⟨h1,h2⟩,fun d hd=>h3 d hd.1 hd.2⟩
theorem v3q {rem:List Cd}:best R rem=none↔∀ c∈rem,∃ d∈rem,R d c=true:=by
 unfold best
 rw [v3i,List.filter_eq_nil_iff]
 simp [w7b]
theorem v32 {R S:Cd→Cd→Bool} {r s:List Cd} (hi:Inj r) (hm:∀ x,x∈r↔x∈s) (hf:∀ x∈r,(∀ d∈r,R d x=false)↔(∀ d∈s,S d x=false)):best R r=best S s:=by
 have hj:Inj s:=hi.sub fun x hx=>(hm x).2 hx
 apply Option.ext
 intro c
 rw [v3r R hi,v3r S hj]
 constructor
 ·rintro ⟨h1,h2,h3⟩
  exact ⟨(hm c).1 h1,(hf c h1).1 h2,fun d hd he=>h3 d ((hm d).2 hd) ((hf d ((hm d).2 hd)).2 he)⟩
 ·rintro ⟨h1,h2,h3⟩
  have h1':=(hm c).2 h1
  exact ⟨h1',(hf c h1').2 h2,fun d hd he=>h3 d ((hm d).1 hd) ((hf d hd).1 he)⟩
theorem z41 {c d:Cd} {l:List Cd}:d∈rm c l↔d∈l∧d≠c:=by simp [rm]
theorem v3h {c:Cd} {l:List Cd} (hn:l.Nodup) (hc:c∈l):(rm c l).length+1=l.length:=by
 induction l with
 |nil=>cases hc
 |cons x l ih=>
  obtain ⟨hx,hn⟩:=eDl.1 hn
  by_cases e:x=c
  ·subst e
   have:rm x (x::l)=l:=by
    simp only [rm,List.filter_cons,decide_true,eDp,eAi,if_false]
    rw [List.filter_eq_self]
    intro d hd
    have:d≠x:=fun e=>hx (e▸hd)
    simp [this]
   rw [this]; rfl
  ·have hc':c∈l:=by
    rcases eAz.1 hc with h|h
    ·exact absurd h.symm e
    ·exact h
   have:=ih hn hc'
   have e2:rm c (x::l)=x::rm c l:=by simp [rm,List.filter_cons,e]
   rw [e2,eBi,eBi,this]
theorem v4a (f:Nat) (rem:List Cd):∀ x∈lst R f rem,x∈rem:=by
 induction f generalizing rem with
 |zero=>intro x hx; cases hx
 |succ f ih=>
  intro x hx
  simp only [lst] at hx
  split at hx
  ·cases hx
  ·rename_i c hb
   rcases eAz.1 hx with rfl|hx
   ·exact (eDa.1 (z53 hb).1).1
   ·exact (z41.1 (ih _ x hx)).1
theorem v4w {R:Cd→Cd→Bool} {l:List Cd} (h:Lin R l) (hne:l≠[]):∃ c,best R l=some c:=by
 cases hb:best R l with
 |some c=>exact ⟨c,rfl⟩
 |none=>
  exfalso
  cases l with
  |nil=>exact hne rfl
  |cons x l=>
   obtain ⟨d,hd,hr⟩:=(v3q R).1 hb x eBq
   rcases eAz.1 hd with rfl|hd
   ·rw [h.2 d eBq] at hr; cases hr
   ·rw [(eBl.1 h.1).1 d hd] at hr; cases hr
theorem u1a {R:Cd→Cd→Bool} {l:List Cd} (h:Lin R l) (hn:l.Nodup):∀ x,x∈lst R l.length l↔x∈l:=by
 intro x
 refine ⟨v4a R _ _ x,?_⟩
 generalize hf:l.length=f
 induction f generalizing l with
 |zero=>intro hx; rw [eBn.1 hf] at hx; cases hx
 |succ f ih=>
  intro hx
  obtain ⟨c,hb⟩:=v4w h (fun e=>by rw [e] at hf; cases hf)
  have hc:c∈l:=(eDa.1 (z53 hb).1).1
  simp only [lst,hb]
  by_cases e:x=c
  ·rw [e]; exact eBq
  ·refine eCm _ (ih (h.filter _) (hn.sublist eDq) ?_ (z41.2 ⟨hx,e⟩))
   have:=v3h hn hc
   show (rm c l).length=f
   omega
theorem v7g {f:Nat} {l:List Cd}:(lst R f l).Nodup:=by
 induction f generalizing l with
 |zero=>exact List.nodup_nil
 |succ f ih=>
  simp only [lst]
  split
  ·exact List.nodup_nil
  ·rename_i c hb
   refine eDl.2 ⟨fun h=>?_,ih⟩
   exact (z41.1 (v4a R _ _ _ h)).2 rfl
theorem u1b {R:Cd→Cd→Bool} {f:Nat} {l:List Cd} (hirr:∀ x∈l,R x x=false):Lin R (lst R f l):=by
 refine ⟨?_,fun x hx=>hirr x (v4a R _ _ x hx)⟩
 induction f generalizing l with
 |zero=>exact List.Pairwise.nil
 |succ f ih=>
  simp only [lst]
  split
  ·exact List.Pairwise.nil
  ·rename_i c hb
   have hm:=eDa.1 (z53 hb).1
   refine List.Pairwise.cons (fun y hy=>?_) (ih fun x hx=>hirr x (z41.1 hx).1)
   exact (z33 R).1 hm.2 y (z41.1 (v4a R _ _ y hy)).1
theorem z80 {l m:List Cd} (h1:l.Nodup) (h2:m.Nodup) (h:∀ x,x∈l↔x∈m):l.Perm m:=(List.perm_ext_iff_of_nodup h1 h2).2 h
theorem v8u {R:Cd→Cd→Bool} {l:List Cd} (h:Lin R l) (hn:l.Nodup):(lst R l.length l).Perm l:=z80 (v7g R) hn (u1a h hn)
theorem v4o {R S:Cd→Cd→Bool} (f:Nat) {r s:List Cd} (hi:Inj r) (hm:∀ x,x∈r↔x∈s) (hR:∀ x∈r,∀ y∈r,R x y=S x y):lst R f r=lst S f s:=by
 induction f generalizing r s with
 |zero=>rfl
 |succ f ih=>
  simp only [lst]
  have hb:best R r=best S s:=v32 hi hm fun x hx=>
   ⟨fun h d hd=>by rw [←hR d ((hm d).2 hd) x hx]; exact h d ((hm d).2 hd),fun h d hd=>by rw [hR d hd x hx]; exact h d ((hm d).1 hd)⟩
  rw [hb]
  split
  ·rfl
  ·rename_i c _
   congr 1
   exact ih (hi.sub fun x hx=>(z41.1 hx).1) (fun x=>by rw [z41,z41,hm x]) fun x hx y hy=>hR x (z41.1 hx).1 y (z41.1 hy).1
theorem v3k {R S:Cd→Cd→Bool} (l0:List Cd) (h1:∀ x∈l0,∀ y∈l0,R x y=true→S x y=true) (h2:∀ x∈l0,∀ y∈l0,S x y=true→R x y=true∨∃ z∈l0,S x z=true∧R z y=true) (hi:Inj l0):
  ∀ (f:Nat) (rem:List Cd),(∀ x∈rem,x∈l0)→(∀ x∈l0,∀ y∈l0,y∉rem→S x y=true→x∉rem)→lst R f rem=lst S f rem
 |0,_,_,_=>rfl
 |f+1,rem,hs,hc=>by
  simp only [lst]
  have hfree:∀ x∈rem,(∀ d∈rem,R d x=false)↔(∀ d∈rem,S d x=false):=by
   intro x hx
   constructor
   ·intro h d hd
    cases hS:S d x with
    |false=>rfl
    |true=>
     exfalso
     rcases h2 d (hs d hd) x (hs x hx) hS with hr|⟨z,hz,hz1,hz2⟩
     ·rw [h d hd] at hr; cases hr
     ·have hzn:z∉rem:=fun hzr=>by rw [h z hzr] at hz2; cases hz2
      exact hc d (hs d hd) z hz hzn hz1 hd
   ·intro h d hd
    cases hR:R d x with
    |false=>rfl
    |true=>have:=h1 d (hs d hd) x (hs x hx) hR; rw [h d hd] at this; cases this
  have hb:best R rem=best S rem:=v32 (hi.sub hs) (fun _=>Iff.rfl) hfree
  rw [hb]
  split
  ·rfl
  ·rename_i c hbc
   have hm:=eDa.1 (z53 hbc).1
   congr 1
   refine v3k l0 h1 h2 hi f _ (fun x hx=>hs x (z41.1 hx).1) ?_
   intro x hx y hy hyn hS hxr
   obtain ⟨hxq,hxc⟩:=z41.1 hxr
   by_cases hyc:y=c
   ·subst hyc
    rw [(z33 S).1 hm.2 x hxq] at hS
    cases hS
   ·exact hc x hx y hy (fun h=>hyn (z41.2 ⟨h,hyc⟩)) hS hxq
end
end Go.Am.D12
end
section
namespace Go.Am.D12
theorem u1k {l:List Cd} {x y:Cd} (hx:x∈l) (h:l.idxOf x=l.idxOf y):x=y:=by
 have h1:=eFb.2 hx
 have h2:l.idxOf y<l.length:=by omega
 have a:=eDi h1
 have b:=eDi h2
 rw [←a, ←b]; congr 1
theorem v5q {P:Cd→Cd→Prop} {l:List Cd} (hp:l.Pairwise P) {x y:Cd} (hx:x∈l) (hy:y∈l) (h:l.idxOf x<l.idxOf y):P x y:=by
 have h1:=eFb.2 hx
 have h2:=eFb.2 hy
 have:=eCa.1 hp _ _ h1 h2 h
 rwa [eDi,eDi] at this
theorem v49 {l:List Cd} (hn:l.Nodup):Lin (ord l) l:=by
 refine ⟨x69 hn fun x _ y _ h=>?_,fun x _=>?_⟩
 ·have:¬ l.idxOf y<l.idxOf x:=by omega
  simp [ord,this]
 ·simp [ord]
theorem v2o {l:List Cd} {x y:Cd} (hx:x∈l) (hne:x≠y) (h:tch x y=true):ord l x y=true∨ord l y x=true:=by
 rw [x11,x11,v3d y x]
 have:l.idxOf x≠l.idxOf y:=fun e=>hne (u1k hx e)
 rcases Nat.lt_or_gt_of_ne this with h1|h1
 ·exact .inl ⟨h,h1⟩
 ·exact .inr ⟨h,h1⟩
theorem v30 {l:List Cd} {x y:Cd} (h:ord l x y=true):x≠y:=fun e=>by
 have:=(x11.1 h).2; rw [e] at this; omega
theorem v6l {a m:List Cd} (hp:a.Perm m) (hn:a.Nodup) (hl:Lin (ord a) m):Eqv a m:=by
 have hm:m.Nodup:=hp.nodup_iff.1 hn
 have key:∀ x∈a,∀ y∈a,ord a x y=true→ord m x y=true:=fun x hx y hy h=>by
  rcases v2o (l:=m) (hp.mem_iff.1 hx) (v30 h) (x11.1 h).1 with h1|h1
  ·exact h1
  ·have:=v5q hl.1 (hp.mem_iff.1 hy) (hp.mem_iff.1 hx) (x11.1 h1).2
   rw [h] at this; cases this
 refine ⟨hp,fun x hx y hy=>?_⟩
 cases h:ord a x y with
 |true=>exact (key x hx y hy h).symm
 |false=>
  cases h1:ord m x y with
  |false=>rfl
  |true=>
   rcases v2o hx (v30 h1) (x11.1 h1).1 with h2|h2
   ·rw [h] at h2; cases h2
   ·have:=x7i (key y hy x hx h2); rw [h1] at this; cases this
def z22 (l:List Cd):List Cd:=lst (ord l) l.length l
theorem z59 {l:List Cd} (hn:l.Nodup):Eqv l (z22 l):=
 v6l (v8u (v49 hn) hn).symm hn (u1b (v49 hn).2)
theorem v4b {a b:List Cd} (hi:Inj a) (h:Eqv a b):z22 a=z22 b:=by
 unfold z22
 rw [h.1.length_eq]
 exact v4o _ hi (fun x=>h.1.mem_iff) h.2
theorem v7l {p q:List Cd} {x:Cd} (hx:x∉p):(p++x::q).idxOf x=p.length:=by
 rw [List.idxOf_append,if_neg hx]; simp
end Go.Am.D12
end
section
namespace Go.Am.D12
theorem v5f {c:Cd}:z3a c=0↔z6u c.n∧z2z c.k≠0∧c.t.length=z2z c.k∧(∀ x∈c.t,z6u x)∧c.t.Nodup∧w1c c.k c.a:=by
 unfold z3a
 constructor
 ·intro h
  repeat' split at h
  all_goals first|(exfalso; omega)|skip
  rename_i h1 h2 h3 h4 h5
  simp only [not_or,Decidable.not_not] at h1 h2 h4 h5
  refine ⟨h1.1,h1.2,h2,fun x hx=>Decidable.byContradiction fun hn=>h3 ⟨x,hx,hn⟩,h4,h5⟩
 ·rintro ⟨h1,h2,h3,h4,h5,h6⟩
  rw [if_neg (by simp only [not_or,Decidable.not_not]; exact ⟨h1,h2⟩),if_neg (by simpa using h3),if_neg (by rintro ⟨x,hx,hn⟩; exact hn (h4 x hx)),if_neg (by simpa using h5),if_neg (by simpa using h6)]
theorem z64 {l:List Cd}:z4x l=0↔l.length≤60∧(∀ c∈l,z3a c=0)∧(l.map (·.n)).Nodup:=by
 unfold z4x
 split
 ·constructor
  ·intro h; omega
  ·intro h; omega
 ·rename_i hlen
  split
  ·rename_i c hc
   have h1:=eDm hc
   have h2:=eDe hc
   simp at h1
   constructor
   ·intro h; exact absurd h h1
   ·intro h; exact absurd (h.2.1 c h2) h1
  ·rename_i hc
   rw [eDj] at hc
   have hc':∀ c∈l,z3a c=0:=fun c h=>by simpa using hc c h
   split
   ·rename_i hn; exact ⟨fun _=>⟨by omega,hc',hn⟩,fun _=>rfl⟩
   ·rename_i hn; exact ⟨fun h=>by omega,fun h=>absurd h.2.2 hn⟩
theorem z28 {l:List Cd} (h:(l.map (·.n)).Nodup):l.Nodup:=by
 rw [List.nodup_iff_pairwise_ne] at h⊢
 rw [List.pairwise_map] at h
 exact h.imp fun h e=>h (by rw [e])
theorem z21 {l:List Cd} (h:(l.map (·.n)).Nodup):Inj l:=by
 intro x hx y hy e
 obtain ⟨i,hi,rfl⟩:=eDb.1 hx
 obtain ⟨j,hj,rfl⟩:=eDb.1 hy
 have:=(List.getElem_inj (xs:=l.map (·.n)) (i:=i) (j:=j) (h₀:=by simpa using hi) (h₁:=by simpa using hj) h).1 (by simpa using e)
 subst this; rfl
def fnd (b:List Th) (x:Int):Option Th:=b.find? fun t=>decide (t.num=x)
theorem v7d (x:Int) (p q:List Cd):on x (p++q)=on x p++on x q:=by simp [on]
theorem u0t {x:Int} {e:Cd} (h:x∈e.t) (q:List Cd):on x (e::q)=e::on x q:=by simp [on,h]
theorem v7c {x:Int} {p:List Cd} {c:Cd} (h:c∈on x p):c∈p:=(x3p.1 h).1
end Go.Am.D12
end
section
namespace Go.Am
section
variable (es l:List (List D)) (i j a b n:Nat) (x y:Int) (c d:Bool)
theorem v47:std.cmp .eql x y=decide (x=y):=rfl
theorem v6g:std.ar .quo .i64 x y=IntKind.i64.wrap (x.tdiv y):=rfl
theorem v25:std.ar .rem .i64 x y=x.tmod y:=rfl
end
end Go.Am
namespace Go.Am
theorem v4e {α:Type} {l:List α} {i:Nat} {m:α} (h:l[i]?=some m):l.drop i=m::l.drop (i+1):=by
 obtain ⟨h1,h2⟩:=eAd.1 h
 rw [List.drop_eq_getElem_cons h1,h2]
end Go.Am
end
section
namespace Go.Am.D12
theorem Tc.last {B:Cd→Cd→Bool} {x y:Cd} (h:Tc B x y):B x y=true∨∃ z,Tc B x z∧B z y=true:=by
 cases h with
 |one h=>exact .inl h
 |step h k=>exact .inr ⟨_,h,k⟩
theorem u0e {B:Cd→Cd→Bool}:∀ {ks:List Cd} {x y:Cd},clo B ks x y=true→Tc B x y
 |[],x,y,h=> .one h
 |k::ks,x,y,h=>by
  have:=u0e (ks:=ks) h
  refine this.mono fun u v hu=>?_
  simp only [eAq,eAb] at hu
  rcases hu with h1|h1
  ·exact .one h1
  ·exact (Tc.one h1.1).step h1.2
theorem v4f {B:Cd→Cd→Bool}:∀ {ks:List Cd} {x y:Cd},B x y=true→clo B ks x y=true
 |[],_,_,h=>h
 |k::ks,x,y,h=>v4f (ks:=ks) (by simp [h])
theorem v4t {B:Cd→Cd→Bool} {k:Cd} (hk:∀ x y,B x k=true→B k y=true→B x y=true):∀ {ks:List Cd} {x y:Cd},clo B ks x k=true→clo B ks k y=true→clo B ks x y=true
 |[],x,y,h1,h2=>hk x y h1 h2
 |m::ks,x,y,h1,h2=>by
  refine v4t (ks:=ks) (k:=k) ?_ h1 h2
  intro u v hu hv
  simp only [eAq,eAb] at hu hv⊢
  rcases hu with hu|⟨hu1,hu2⟩<;>rcases hv with hv|⟨hv1,hv2⟩
  ·exact .inl (hk _ _ hu hv)
  ·exact .inr ⟨hk _ _ hu hv1,hv2⟩
  ·exact .inr ⟨hu1,hk _ _ hu2 hv⟩
  ·exact .inr ⟨hu1,hv2⟩
theorem v7u {B:Cd→Cd→Bool}:∀ {ks:List Cd} {k:Cd},k∈ks→∀ {x y:Cd},clo B ks x k=true→clo B ks k y=true→clo B ks x y=true
 |[],_,h,_,_,_,_=>by cases h
 |m::ks,k,h,x,y,h1,h2=>by
  rcases eAz.1 h with rfl|h
  ·refine v4t (B:=fun i j=>B i j||(B i k&&B k j)) (ks:=ks) ?_ h1 h2
   intro u v hu hv
   simp only [eAq,eAb] at hu hv⊢
   rcases hu with hu|⟨hu1,_⟩<;>rcases hv with hv|⟨_,hv2⟩
   ·exact .inr ⟨hu,hv⟩
   ·exact .inr ⟨hu,hv2⟩
   ·exact .inr ⟨hu1,hv⟩
   ·exact .inr ⟨hu1,hv2⟩
  ·exact v7u (ks:=ks) h h1 h2
theorem v7v {B:Cd→Cd→Bool} {g:List Cd} (hB:∀ x y,B x y=true→x∈g) {x y:Cd}:clo B g x y=true↔Tc B x y:=by
 refine ⟨u0e,fun h=>?_⟩
 induction h with
 |one h=>exact v4f h
 |step h k ih=>exact v7u (hB _ _ k) ih (v4f k)
theorem v68 {l p r:List Cd} {c:Cd} (h:l=p++c::r) (hc:c∉p):pre l c=p:=by
 subst h
 unfold pre
 rw [v7l hc]; simp
theorem v7e {l:List Cd} {c d:Cd} (hd:d∈l):d∈pre l c↔l.idxOf d<l.idxOf c:=by
 unfold pre
 constructor
 ·intro h
  obtain ⟨i,hi,he⟩:=eDb.1 h
  have hi':=hi
  rw [eBv] at hi
  rw [List.getElem_take] at he
  have:l.idxOf d≤i:=by
   refine Nat.le_of_not_lt fun hlt=>?_
   have:=List.not_of_lt_findIdx (p:=(· ==d)) (xs:=l) (i:=i) hlt
   rw [he] at this
   simp at this
  omega
 ·intro h
  have hlt:=eFb.2 hd
  have e:(l.take (l.idxOf c))[l.idxOf d]'(by rw [eBv]; omega)=d:=by
   rw [List.getElem_take,eDi]
  exact e▸eCp _
def ltc (l:List Cd) (d c:Cd):Bool:=decide (c∈l)&&c.t.any fun x=>decide ((on x (pre l c)).getLast?=some d)
theorem v2k {l:List Cd} {d c:Cd}:ltc l d c=true↔c∈l∧∃ x∈c.t,(on x (pre l c)).getLast?=some d:=by simp [ltc]
theorem v67 {l:List Cd} {c d:Cd} (h:d∈pre l c):d∈l:=List.mem_of_mem_take h
theorem z85 {l:List Cd} {d c:Cd} (h:ltc l d c=true):ord l d c=true∧d∈l:=by
 obtain ⟨hc,x,hx,hl⟩:=v2k.1 h
 have hd:=eDx hl
 have hdp:=x3p.1 hd
 have hdl:=v67 hdp.1
 exact ⟨x11.2 ⟨w3o.2 ⟨x,hdp.2,hx⟩,(v7e hdl).1 hdp.1⟩,hdl⟩
theorem v7b {l:List Cd} (hn:l.Nodup) {d c:Cd} (hd:d∈l) (hc:c∈l) (h:ord l d c=true):ltc l d c=true∨∃ z∈l,ord l d z=true∧ltc l z c=true:=by
 obtain ⟨ht,hlt⟩:=x11.1 h
 obtain ⟨x,hxd,hxc⟩:=w3o.1 ht
 have hdo:d∈on x (pre l c):=x3p.2 ⟨(v7e hd).2 hlt,hxd⟩
 cases hl:(on x (pre l c)).getLast? with
 |none=>rw [List.getLast?_eq_none_iff] at hl; rw [hl] at hdo; cases hdo
 |some z=>
  have hz:=eDx hl
  have hzl:=v67 (x3p.1 hz).1
  have hlz:ltc l z c=true:=v2k.2 ⟨hc,x,hxc,hl⟩
  by_cases e:d=z
  ·subst e; exact .inl hlz
  ·right
   refine ⟨z,hzl,x11.2 ⟨w3o.2 ⟨x,hxd,(x3p.1 hz).2⟩,?_⟩,hlz⟩
   have hpw:(on x (pre l c)).Pairwise fun u v=>l.idxOf u<l.idxOf v:=((w2w hn).sublist (List.take_sublist _ _)).filter _
   obtain ⟨q,hq⟩:∃ q,on x (pre l c)=q++[z]:=⟨_,List.getLast?_eq_some_iff.1 hl|>.choose_spec⟩
   rw [hq] at hpw hdo
   rcases eBj.1 hdo with h1|h1
   ·exact (List.pairwise_append.1 hpw).2.2 d h1 z eBq
   ·exact absurd (eBe.1 h1) e
theorem v3z {l:List Cd} {x y:Cd} (h:Tc (ord l) x y):l.idxOf x<l.idxOf y:=by
 induction h with
 |one h=>exact (x11.1 h).2
 |step _ h ih=>have:=(x11.1 h).2; omega
def z63 (a b:List Cd) (x y:Cd):Bool:=ltc a x y||ltc b x y
theorem z32 {a b:List Cd} {x y:Cd}:w96 a b x y=true↔(x∈a∧y∈a∧ord a x y=true)∨(x∈b∧y∈b∧ord b x y=true):=by
 simp [w96,and_assoc]
theorem z75 {a b:List Cd} {x y:Cd} (h:z63 a b x y=true):w96 a b x y=true:=by
 unfold z63 at h
 simp only [eAq] at h
 rcases h with h|h
 ·exact z32.2 (.inl ⟨(z85 h).2,(v2k.1 h).1,(z85 h).1⟩)
 ·exact z32.2 (.inr ⟨(z85 h).2,(v2k.1 h).1,(z85 h).1⟩)
theorem v7a {l:List Cd} (hn:l.Nodup):∀ (n:Nat) (x y:Cd),x∈l→y∈l→l.idxOf y - l.idxOf x≤n→ord l x y=true→Tc (ltc l) x y:=by
 intro n
 induction n with
 |zero=>intro x y _ _ hle h; have:=(x11.1 h).2; omega
 |succ n ih=>
  intro x y hx hy hle h
  rcases v7b hn hx hy h with h1|⟨z,hz,h1,h2⟩
  ·exact .one h1
  ·have a:=(x11.1 (z85 h2).1).2
   have b:=(x11.1 h1).2
   exact (ih x z hx hz (by omega) h1).step h2
theorem v7j {a b:List Cd} (ha:a.Nodup) (hb:b.Nodup) {x y:Cd} (h:w96 a b x y=true):Tc (z63 a b) x y:=by
 rcases z32.1 h with ⟨h1,h2,h3⟩|⟨h1,h2,h3⟩
 ·exact (v7a ha _ x y h1 h2 (eAk _) h3).mono fun u v h=> .one (by simp [z63,h])
 ·exact (v7a hb _ x y h1 h2 (eAk _) h3).mono fun u v h=> .one (by simp [z63,h])
theorem v38 {a b:List Cd} (ha:a.Nodup) (hb:b.Nodup) {x y:Cd}:Tc (z63 a b) x y↔Tc (w96 a b) x y:=
 ⟨fun h=>h.mono fun _ _ h=> .one (z75 h),fun h=>h.mono fun _ _ h=>v7j ha hb h⟩
theorem v2w {a b:List Cd} (hc:∀ x∈a,∀ y∈b,x.n=y.n→x=y) {x y:Cd} (h:w96 a b x y=true):x∈w5r a b∧y∈w5r a b:=by
 have hb:∀ z∈b,z∈w5r a b:=fun z hz=>by
  unfold w5r
  by_cases e:∃ d∈a,d.n=z.n
  ·obtain ⟨d,hd,he⟩:=e
   rw [←hc d hd z hz he]; exact eDy _ hd
  ·refine List.mem_append_right _ (eDa.2 ⟨hz,?_⟩)
   simp only [eBy,eDo,decide_eq_true_eq]
   exact fun d hd he=>e ⟨d,hd,he⟩
 have haa:∀ z∈a,z∈w5r a b:=fun z hz=>eDy _ hz
 rcases z32.1 h with ⟨h1,h2,_⟩|⟨h1,h2,_⟩
 ·exact ⟨haa _ h1,haa _ h2⟩
 ·exact ⟨hb _ h1,hb _ h2⟩
theorem v2q {a b:List Cd} (hc:∀ x∈a,∀ y∈b,x.n=y.n→x=y) {z:Cd}:z∈w5r a b↔z∈a∨z∈b:=by
 unfold w5r
 rw [eBj]
 constructor
 ·rintro (h|h)
  ·exact .inl h
  ·exact .inr (eDa.1 h).1
 ·rintro (h|h)
  ·exact .inl h
  ·by_cases e:∃ d∈a,d.n=z.n
   ·obtain ⟨d,hd,he⟩:=e
    left; rw [←hc d hd z h he]; exact hd
   ·refine .inr (eDa.2 ⟨h,?_⟩)
    simp only [eBy,eDo,decide_eq_true_eq]
    exact fun d hd he=>e ⟨d,hd,he⟩
theorem v4z {a b:List Cd} (ha:(a.map (·.n)).Nodup) (hb:(b.map (·.n)).Nodup):((w5r a b).map (·.n)).Nodup:=by
 unfold w5r
 rw [List.map_append,eDv]
 refine ⟨ha,hb.sublist (eDq.map _),fun x hx y hy e=>?_⟩
 obtain ⟨c,hc,rfl⟩:=eBb.1 hx
 obtain ⟨d,hd,rfl⟩:=eBb.1 hy
 have:=(eDa.1 hd).2
 simp only [eBy,eDo,decide_eq_true_eq] at this
 exact this c hc e
def knL (a b:List Cd):Cd→Cd→Bool:=clo (z63 a b) (w5r a b)
theorem v2l {a b:List Cd} (hc:∀ x∈a,∀ y∈b,x.n=y.n→x=y) {x y:Cd}:kn a b x y=true↔Tc (w96 a b) x y:=v7v fun _ _ h=>(v2w hc h).1
theorem u2v {a b:List Cd} (ha:a.Nodup) (hb:b.Nodup) (hc:∀ x∈a,∀ y∈b,x.n=y.n→x=y):knL a b=kn a b:=by
 funext x y
 rw [eCu,v2l hc,knL,v7v fun _ _ h=>(v2w hc (z75 h)).1,v38 ha hb]
def z31 (a b:List Cd):Int:=
 if z4x a≠0 then z4x a else if z4x b≠0 then z4x b
 else if ∃ x∈a,∃ y∈b,x.n=y.n∧x≠y then 15 else 0
theorem z72 {a b:List Cd}:z31 a b=0↔z4x a=0∧z4x b=0∧∀ x∈a,∀ y∈b,x.n=y.n→x=y:=by
 unfold z31
 constructor
 ·intro h
  split at h
  ·exact absurd h ‹_›
  ·split at h
   ·exact absurd h ‹_›
   ·split at h
    ·exact absurd h (by decide)
    ·rename_i h1 h2 h3
     refine ⟨by simpa using h1,by simpa using h2,fun x hx y hy he=>Decidable.byContradiction fun hne=>h3 ⟨x,hx,y,hy,he,hne⟩⟩
 ·rintro ⟨h1,h2,h3⟩
  rw [if_neg (by simpa using h1),if_neg (by simpa using h2),if_neg]
  rintro ⟨x,hx,y,hy,he,hne⟩
  exact hne (h3 x hx y hy he)
instance (a b:List Cd):Decidable (unkn a b):=inferInstanceAs (Decidable (∃ x,x∈w5r a b∧∃ y,y∈w5r a b∧x≠y∧tch x y=true∧kn a b x y=false∧kn a b y x=false))
instance (a b:List Cd):Decidable (circ a b):=inferInstanceAs (Decidable (∃ x,x∈w5r a b∧kn a b x x=true))
def z57 (a b:List Cd):Int:=
 if z31 a b≠0 then z31 a b
 else if 60<(w5r a b).length then 6
 else if circ a b then 24
 else if unkn a b then 16 else 0
def v3j (a b:List Cd):List Cd:=if z57 a b=0 then lst (kn a b) (w5r a b).length (w5r a b) else []
theorem v2r {l a b:List Cd} (ha:a.Sublist l) (hb:b.Sublist l) (hn:l.Nodup) {x y:Cd} (h:w96 a b x y=true):ord l x y=true:=by
 have key:∀ {p:List Cd},p.Sublist l→x∈p→y∈p→ord p x y=true→ord l x y=true:=fun {p} hs hx hy ho=>by
  obtain ⟨ht,hlt⟩:=x11.1 ho
  refine x11.2 ⟨ht,?_⟩
  exact v5q ((w2w hn).sublist hs) hx hy hlt
 rcases z32.1 h with ⟨h1,h2,h3⟩|⟨h1,h2,h3⟩
 ·exact key ha h1 h2 h3
 ·exact key hb h1 h2 h3
theorem v5s {l p:List Cd} (hs:p.Sublist l) (hn:l.Nodup) {x y:Cd} (hx:x∈p) (hy:y∈p):ord p x y=ord l x y:=by
 rw [eCu]
 constructor
 ·intro ho
  obtain ⟨ht,hlt⟩:=x11.1 ho
  exact x11.2 ⟨ht,v5q ((w2w hn).sublist hs) hx hy hlt⟩
 ·intro ho
  rcases v2o (l:=p) hx (v30 ho) (x11.1 ho).1 with h|h
  ·exact h
  ·exfalso
   obtain ⟨ht,hlt⟩:=x11.1 h
   have:=v5q ((w2w hn).sublist hs) hy hx hlt
   have:=(x11.1 ho).2
   omega
theorem v48 {l a b:List Cd} (ha:a.Sublist l) (hb:b.Sublist l) (hn:l.Nodup) (hi:Inj l):¬ circ a b:=by
 rintro ⟨x,hx,hk⟩
 have hc:∀ x∈a,∀ y∈b,x.n=y.n→x=y:=fun x hx y hy=>hi x (ha.subset hx) y (hb.subset hy)
 have:=(v2l hc).1 hk
 have h2:=v3z (this.mono fun u v h=> .one (v2r ha hb hn h))
 omega
theorem v6i {l a b:List Cd} (ha:a.Sublist l) (hb:b.Sublist l) (hn:l.Nodup) (hi:Inj l) (hall:∀ x∈l,x∈a∨x∈b) (hu:¬ unkn a b):lst (kn a b) (w5r a b).length (w5r a b)=z22 l:=by
 have hc:∀ x∈a,∀ y∈b,x.n=y.n→x=y:=fun x hx y hy=>hi x (ha.subset hx) y (hb.subset hy)
 have hm:∀ z,z∈w5r a b↔z∈l:=fun z=>by
  rw [v2q hc]
  exact ⟨fun h=>h.elim (fun h=>ha.subset h) fun h=>hb.subset h,hall z⟩
 have hsub:∀ x y,kn a b x y=true→Tc (ord l) x y:=fun x y h=>((v2l hc).1 h).mono fun u v h=> .one (v2r ha hb hn h)
 have hord:∀ x∈l,∀ y∈l,ord l x y=true→kn a b x y=true:=fun x hx y hy h=>by
  cases h1:kn a b x y with
  |true=>rfl
  |false=>
   exfalso
   cases h2:kn a b y x with
   |true=>
    have:=v3z (hsub _ _ h2)
    have:=(x11.1 h).2
    omega
   |false=>exact hu ⟨x,(hm x).2 hx,y,(hm y).2 hy,v30 h,(x11.1 h).1,h1,h2⟩
 have hp:(w5r a b).length=l.length:=by
  have hna:a.Nodup:=hn.sublist ha
  have hnb:b.Nodup:=hn.sublist hb
  have hnl:(w5r a b).Nodup:=by
   unfold w5r
   rw [eDv]
   refine ⟨hna,hnb.sublist eDq,fun x hx y hy e=>?_⟩
   have:=(eDa.1 hy).2
   simp only [eBy,eDo,decide_eq_true_eq] at this
   exact this x hx (by rw [e])
  exact (z80 hnl hn hm).length_eq
 have e1:lst (kn a b) (w5r a b).length (w5r a b)=lst (kn a b) l.length l:=by
  rw [hp]
  exact v4o _ (hi.sub fun x hx=>(hm x).1 hx) hm fun _ _ _ _=>rfl
 rw [e1]
 symm
 refine v3k (R:=ord l) (S:=kn a b) l hord (fun x hx y hy h=>?_) hi _ _ (fun x hx=>hx) fun x hx y hy hyn _=>absurd hy hyn
 rcases ((v2l hc).1 h).last with h1|⟨z,h1,h2⟩
 ·exact .inl (v2r ha hb hn h1)
 ·exact .inr ⟨z,(hm z).1 (v2w hc h2).1,(v2l hc).2 h1,v2r ha hb hn h2⟩
theorem v5b {B:Cd→Cd→Bool} {g rem:List Cd} (hB:∀ x y,B x y=true→x∈g) (hinv:∀ z∈g,Tc B z z→z∈rem) {c:Cd} (hf:∀ d∈rem,B d c=false):∀ z∈g,Tc B z z→z∈rm c rem:=by
 intro z hz ht
 refine z41.2 ⟨hinv z hz ht,fun e=>?_⟩
 subst e
 rcases ht.last with h|⟨y,h1,h2⟩
 ·have:=hf z (hinv z hz ht); rw [h] at this; cases this
 ·have hy:y∈rem:=hinv y (hB _ _ h2) ((Tc.one h2).trans h1)
  have:=hf y hy; rw [h2] at this; cases this
end Go.Am.D12
end
noncomputable section
namespace Go.Am
theorem vD : EnvOk PG (autoEnvD [] PG) := autoEnvD_ok follows_mixed

abbrev q0m : OT := .box [.int .i64, .int .i64, .list 1, .int .i64]
abbrev q1m : OT := .row [(CK.int .u64), (CK.int .u64)]
abbrev q2m : OT := .box [.sl 1 4, .map 2, .full 3 2]
abbrev q3m : OT := .box [.sl 2 4, .map 3, .full 4 2]
abbrev q4m : OT := .box [.sl 3 4, .map 4, .full 5 2]
abbrev q5m : OT := .box [.sl 0 4, .map 4, .full 5 2]
abbrev q6m : OT := .box [.sl 4 4, .map 5, .full 6 2]
abbrev q7m : OT := .box [.sl 5 4, .map 6, .full 7 2]
abbrev q8m : OT := .row [ci, ci, (CK.list 1), ci]
abbrev q9m : OT := .box [.sl 1 4, .map 2, .nils]
abbrev q10m : OT := .box [.int .u64, .int .u64]
abbrev q11m : OT := .box [.bptr 0 0]
abbrev q12m : OT := .box [.int .i64]
abbrev q13m : OT := .box [.bptr 3 0]
abbrev q14m : OT := .box [.bptr 4 0]
abbrev q15m : OT := .box [.bool]
abbrev q16m : OT := .row [ci]
abbrev q17m : List OT := [q10m, .box [.bptr 2 0], q4m, q8m, .map, q1m]
abbrev q18m : List OT := [q14m, q10m, .map, q16m, q7m, q8m, .map, q1m]
abbrev q19m : List OT := [q13m, q10m, q15m, q6m, q8m, .map, q1m]
abbrev q20m : List OT := [q13m, .map, q16m, q6m, q8m, .map, q1m]
abbrev q21m : List OT := [q8m, q10m, q13m, q5m, .map, q1m]
abbrev q22m : List OT := [q3m, .map, q8m, .map, q1m]
abbrev q23m : List OT := [q2m, q8m, .map, q1m]
abbrev q24m : List OT := [q10m, q10m, q10m]
abbrev q25m : List OT := [q9m, q8m, .map]
abbrev tT := true
abbrev fF := false
abbrev W1w := (Int×Unit)
abbrev W0w := (Int×W1w)
abbrev W25w := (D×D)
abbrev W60w := (Int×W0w)
abbrev W10w := (Int×W60w)
abbrev W22w := (Int×(Int×(Int×W10w)))
abbrev W2w := (LD×(List (W25w)×(LD×(LD×(Nat×(Nat×(Int×(Int×W22w))))))))
abbrev W46w := (Nat×(Nat×Unit))
abbrev W3w := (LD×(List (W25w)×(LD×W46w)))
abbrev W4w := (Bool×Unit)
abbrev W13w := (LD×W0w)
abbrev W36w := (Int×W13w)
abbrev W51w := (Int×W36w)
abbrev W5w := (List (W25w)×(LD×(List (W25w)×(LD×(Nat×(Nat×(Int×(LD×(Int×(Int×(LD×W51w)))))))))))
abbrev W6w := (List (W25w)×(LD×(List (W25w)×(LD×(Nat×(Nat×(LD×W51w)))))))
abbrev W41w := (Nat×(Nat×W1w))
abbrev W7w := (LD×(List (W25w)×(LD×(Int×(Int×W41w)))))
abbrev W8w := (LD×(List (W25w)×(Nat×(Nat×(LD×(LD×W51w))))))
abbrev W9w := (LD×(List (W25w)×(LD×(Int×(Int×(Bool×(Nat×(Nat×W0w))))))))
abbrev W48w := (Int×(Int×W4w))
abbrev W11w := (List (W25w)×(LD×(LD×(List (W25w)×(LD×(Int×(Int×(Nat×(Nat×(Int×(Int×W48w)))))))))))
abbrev W12w := (LD×(List (W25w)×(LD×(LD×W46w))))
abbrev W14w := (LD×Unit)
abbrev W15w := (LD×(List (W25w)×(LD×(Int×(Int×(Bool×(Nat×(Nat×W10w))))))))
abbrev W16w := (List (W25w)×(LD×(LD×(List (W25w)×(LD×(Int×(Int×(Nat×(Nat×W60w)))))))))
abbrev W17w := (Int×(Int×(LD×(Int×W51w))))
abbrev W18w := (LD×W1w)
abbrev W19w := (LD×(List (W25w)×(LD×(Int×(Int×W46w)))))
abbrev W38w := (Nat×(Nat×(Nat×W0w)))
abbrev W20w := (LD×(List (W25w)×(LD×(Nat×W38w))))
abbrev W21w := (LD×(List (W25w)×(LD×(Nat×(Nat×W0w)))))
abbrev W23w := (List (W25w)×(LD×(LD×(List (W25w)×(LD×W41w)))))
abbrev W24w := (LD×(List (W25w)×(LD×(Int×(Int×(Bool×W46w))))))
abbrev W26w := (Int×(Int×W18w))
abbrev W27w := (LD×(List (W25w)×(LD×(Nat×(Nat×(Int×W10w))))))
abbrev W28w := (LD×(List (W25w)×(LD×(Nat×(Nat×(Int×(Int×(LD×(Int×(Int×(Nat×(Nat×(Int×(Int×(Nat×(Nat×(Nat×W48w)))))))))))))))))
abbrev W29w := (LD×(Int×W4w))
abbrev W30w := (LD×(List (W25w)×(LD×(Nat×(Nat×W13w)))))
abbrev W31w := (LD×(List (W25w)×(LD×(Nat×(Nat×(Int×(Int×(LD×(Int×(Int×(Nat×(Nat×(Int×(Int×W38w))))))))))))))
abbrev W32w := (List (W25w)×W13w)
abbrev W33w := (List (W25w)×(LD×W7w))
abbrev W34w := (LD×(List (W25w)×(LD×(Nat×(Nat×W4w)))))
abbrev W55w := (LD×W18w)
abbrev W35w := (LD×W55w)
abbrev W45w := (LD×W13w)
abbrev W37w := (List (W25w)×(LD×W45w))
abbrev W39w := (LD×(Int×(LD×(LD×(Bool×W1w)))))
abbrev W40w := (LD×(Int×(LD×(LD×(Bool×W0w)))))
abbrev W42w := (LD×W14w)
abbrev W43w := (LD×(LD×(LD×(LD×W60w))))
abbrev W44w := (Int×(Int×(LD×(Int×W26w))))
abbrev W47w := (Int×(Int×W29w))
abbrev W49w := (List (W25w)×(LD×(List (W25w)×(LD×(LD×(Int×(Int×W41w)))))))
abbrev W50w := (List (W25w)×Unit)
abbrev W52w := (LD×(LD×W4w))
abbrev W53w := (LD×(List (W25w)×(LD×(Int×(Int×(Nat×(Nat×W4w)))))))
abbrev W54w := (Int×(Int×(LD×(Int×(Int×(Int×(LD×W60w)))))))
abbrev W56w := (LD×(List (W25w)×(LD×(Int×(Int×(Nat×W38w))))))
abbrev W57w := (LD×(List (W25w)×(LD×(LD×(Nat×(Nat×W22w))))))
abbrev W58w := (LD×(List (W25w)×(LD×(LD×(Nat×(Nat×W10w))))))
abbrev W59w := (Nat×(Nat×W45w))
def v7s:Ctr:=
 ⟨43,[.list 4, .int .i64],[],[(.ret,⟨[(0, .int .i64)],[],1⟩)]⟩
def la43:List LA:=
 [⟨43,[fF,tT,fF,tT],0,⟨⟨[(0, .list 4),(1, .int .i64),(5, .int .i64)],[],20⟩,[(AX.ret,⟨[(4, .int .i64)],[],20⟩),((AX.exit 0),⟨[],[],20⟩)]⟩⟩]
def ja43:List JA:=
 []
def u7y:List CF:=
 []
def an43:Anns:=
 ⟨u7y,ja43,[]⟩
def v8a (p:Prim):W13w→Option (W13w⊕(W1w⊕Unit)):=
 fun a=>let A:=a.2.2.1; opt.run _ (
 opt.ask _ (p.cmp .lss A (p.ofNat (p.len a.1))) (
 opt.need _ (p.rowOk a.1 (p.nat A) [ci,ci,(CK.list 1),ci])<|
 opt.need _ (p.cmp .geq A (0:Int))<|
 opt.ask _ (p.cmp .eql (p.rdI a.1 (p.nat A) 0) a.2.1) (
 opt.ret _ (Sum.inr (Sum.inl a.2.2))) (
 opt.ret _ (Sum.inl (a.1,(a.2.1,((p.ar .add .i64 A (1:Int)),())))))) (
 opt.ret _ (Sum.inr (Sum.inr ()))))
def G43:(p:Prim)→W18w→Option (W1w):=
 fun p x=>
 opt.alt (W1w) (Unit) _ (
 z5q (v8a p) (x.1,(x.2.1,((0:Int),())))) (fun a=>
 opt.ret _ a) (fun b=>
 opt.bnd (Unit) _ (some b) fun c=>
 opt.ret _ ((-1:Int),()))
theorem u5i:CtrOk PG v7s (G43 std):=okF vE (a:=an43) (l:=la43) (gN)
def u1p:Ctr:=
 ⟨44,[.agg [.int .i64, .int .i64, .list 1, .int .i64], .agg [.int .i64, .int .i64, .list 1, .int .i64]],[],[(.ret,⟨[(0, .bool)],[],1⟩)]⟩
def la44:List LA:=
 [⟨44,[fF,tT,fF,tT],0,⟨⟨[(2, .bptr 0 0),(3, .bptr 1 0),(5, .int .i64)],[q0m,q0m],32⟩,[(AX.ret,⟨[(4, .bool)],[],32⟩),((AX.exit 0),⟨[],[],32⟩)]⟩⟩,
 ⟨44,[fF,tT,fF,fF,tT,fF,fF,tT,fF,tT],0,⟨⟨[(2, .bptr 0 0),(3, .bptr 1 0),(5, .int .i64),(6, .int .i64)],[q0m,q0m],32⟩,[(AX.ret,⟨[(4, .bool)],[],32⟩),((AX.exit 2),⟨[(2, .bptr 0 0),(3, .bptr 1 0),(5, .int .i64)],[q0m,q0m],32⟩)]⟩⟩]
def ja44:List JA:=
 []
def u7x:List CF:=
 []
def an44:Anns:=
 ⟨u7x,ja44,[]⟩
def v78 (p:Prim):W54w→Option (W54w⊕(W4w⊕W17w)):=
 fun a=>let A:=a.2.2.2.2.2.2.2.2.2.1;let B:=a.2.2.2.2.2.2.2.2.1;let C:=a.2.2.2.2.2.2.1; opt.run _ (
 opt.ask _ (p.cmp .lss A (p.ofNat (p.len C))) (
 opt.need _ (p.rowOk a.2.2.1 (p.nat B) [ci])<|
 opt.need _ (p.cmp .geq B (0:Int))<|
 opt.need _ (p.rowOk C (p.nat A) [ci])<|
 opt.need _ (p.cmp .geq A (0:Int))<|
 opt.ask _ (p.cmp .eql (p.rdI a.2.2.1 (p.nat B) 0) (p.rdI C (p.nat A) 0)) (
 opt.ret _ (Sum.inr (Sum.inl (Bool.true,())))) (
 opt.ret _ (Sum.inl (a.1,(a.2.1,(a.2.2.1,(a.2.2.2.1,(a.2.2.2.2.1,(a.2.2.2.2.2.1,(C,(a.2.2.2.2.2.2.2.1,(B,((p.ar .add .i64 A (1:Int)),()))))))))))))) (
 opt.ret _ (Sum.inr (Sum.inr (a.1,(a.2.1,(a.2.2.1,(a.2.2.2.1,(a.2.2.2.2.1,(a.2.2.2.2.2.1,(C,(a.2.2.2.2.2.2.2.1,(B,())))))))))))))
def v79 (p:Prim):W17w→Option (W17w⊕(W4w⊕Unit)):=
 fun a=>opt.run _ (
 opt.ask _ (p.cmp .lss a.2.2.2.2.2.2.2.2.1 (p.ofNat (p.len a.2.2.1))) (
 opt.alt (W4w) (W17w) _ (
 z5q (v78 p) (a.1,(a.2.1,(a.2.2.1,(a.2.2.2.1,(a.2.2.2.2.1,(a.2.2.2.2.2.1,(a.2.2.2.2.2.2.1,(a.2.2.2.2.2.2.2.1,(a.2.2.2.2.2.2.2.2.1,((0:Int),()))))))))))) (fun b=>
 opt.ret _ (Sum.inr (Sum.inl b))) (fun c=>
 opt.bnd (W17w) _ (some c) fun d=>
 opt.ret _ (Sum.inl (d.1,(d.2.1,(d.2.2.1,(d.2.2.2.1,(d.2.2.2.2.1,(d.2.2.2.2.2.1,(d.2.2.2.2.2.2.1,(d.2.2.2.2.2.2.2.1,((p.ar .add .i64 d.2.2.2.2.2.2.2.2.1 (1:Int)),())))))))))))) (
 opt.ret _ (Sum.inr (Sum.inr ()))))
def G44:(p:Prim)→W44w→Option (W4w):=
 fun p x=>
 opt.alt (W4w) (Unit) _ (
 z5q (v79 p) (x.1,(x.2.1,(x.2.2.1,(x.2.2.2.1,(x.2.2.2.2.1,(x.2.2.2.2.2.1,(x.2.2.2.2.2.2.1,(x.2.2.2.2.2.2.2.1,((0:Int),())))))))))) (fun a=>
 opt.ret _ a) (fun b=>
 opt.bnd (Unit) _ (some b) fun c=>
 opt.ret _ (Bool.false,()))
theorem u9g:CtrOk PG u1p (G44 std):=okF vE (a:=an44) (l:=la44) (gN)
def u1o:Ctr:=
 ⟨77,[.agg [.int .i64, .int .i64, .list 1, .int .i64], .agg [.int .i64, .int .i64, .list 1, .int .i64]],[],[(.ret,⟨[(0, .bool)],[],1⟩)]⟩
def la77:List LA:=
 [⟨77,[fF,tT,fF,tT,tT],0,⟨⟨[(2, .bptr 0 0),(3, .bptr 1 0),(5, .int .i64)],[q0m,q0m],52⟩,[(AX.ret,⟨[(4, .bool)],[],52⟩),((AX.exit 0),⟨[],[],52⟩)]⟩⟩]
def ja77:List JA:=
 [⟨77,[fF,fF,tT],0,[(AX.normal,⟨[(2, .bptr 0 0),(3, .bptr 1 0),(33, .bool)],[q0m,q0m],52⟩)]⟩]
def u7j:List CF:=
 []
def an77:Anns:=
 ⟨u7j,ja77,[]⟩
def v71 (p:Prim):W17w→Option (W17w⊕(W4w⊕Unit)):=
 fun a=>let A:=a.2.2.2.2.2.2.2.2.1;let B:=a.2.2.2.2.2.2.1;let C:=p.cmp .geq A (0:Int);let E:=p.nat A; opt.run _ (
 opt.ask _ (p.cmp .lss A (p.ofNat (p.len a.2.2.1))) (
 opt.need _ (p.rowOk a.2.2.1 E [ci])<|
 opt.need _ C<|
 opt.need _ (p.rowOk B E [ci])<|
 opt.need _ C<|
 opt.ask _ (p.cmp .neq (p.rdI a.2.2.1 E 0) (p.rdI B E 0)) (
 opt.ret _ (Sum.inr (Sum.inl (Bool.false,())))) (
 opt.ret _ (Sum.inl (a.1,(a.2.1,(a.2.2.1,(a.2.2.2.1,(a.2.2.2.2.1,(a.2.2.2.2.2.1,(B,(a.2.2.2.2.2.2.2.1,((p.ar .add .i64 A (1:Int)),())))))))))))) (
 opt.ret _ (Sum.inr (Sum.inr ()))))
def G77:(p:Prim)→W44w→Option (W4w):=
 fun p x=>let E:=x.2.2.2.2.2.1;let C:=x.2.2.2.2.2.2.1;let B:=x.2.2.2.2.2.2.2.1;let A:=(x.1,(x.2.1,(x.2.2.1,(x.2.2.2.1,(x.2.2.2.2.1,(E,(C,(B,(Bool.true,())))))))));
 opt.bnd ((Int×(Int×(LD×(Int×W47w))))) _ (
 opt.run ((Int×(Int×(LD×(Int×W47w))))) (
 opt.ask _ (p.cmp .neq x.1 x.2.2.2.2.1) (
 opt.ret _ A) (
 opt.ask _ (p.cmp .neq x.2.1 E) (
 opt.ret _ A) (
 opt.ask _ (p.cmp .neq x.2.2.2.1 B) (
 opt.ret _ A) (
 opt.ret _ (x.1,(x.2.1,(x.2.2.1,(x.2.2.2.1,(x.2.2.2.2.1,(E,(C,(B,((p.cmp .neq (p.ofNat (p.len x.2.2.1)) (p.ofNat (p.len C))),())))))))))))))) fun a=>
 opt.ask _ a.2.2.2.2.2.2.2.2.1 (
 opt.ret _ (Bool.false,())) (
 opt.alt (W4w) (Unit) _ (
 z5q (v71 p) (a.1,(a.2.1,(a.2.2.1,(a.2.2.2.1,(a.2.2.2.2.1,(a.2.2.2.2.2.1,(a.2.2.2.2.2.2.1,(a.2.2.2.2.2.2.2.1,((0:Int),())))))))))) (fun b=>
 opt.ret _ b) (fun c=>
 opt.bnd (Unit) _ (some c) fun d=>
 opt.ret _ (Bool.true,())))
theorem u9f:CtrOk PG u1o (G77 std):=okF vE (a:=an77) (l:=la77) (gN)
def u4d:Ctr:=
 ⟨34,[.list 4, .list 4],[],[(.ret,⟨[(0, .bool)],[],1⟩)]⟩
def la34:List LA:=
 [⟨34,[fF,tT,fF,tT,tT],0,⟨⟨[(0, .list 4),(1, .list 4),(5, .int .i64)],[],27⟩,[(AX.ret,⟨[(4, .bool)],[],27⟩),((AX.exit 0),⟨[],[],27⟩)]⟩⟩]
def ja34:List JA:=
 []
def u8b:List CF:=
 [⟨u1o,G77⟩]
def an34:Anns:=
 ⟨u8b,ja34,[]⟩
def u1s (p:Prim):W55w→Option (W55w⊕(W4w⊕Unit)):=
 fun a=>let A:=p.nat a.2.2.1;let B:=p.cmp .geq a.2.2.1 (0:Int);let C:=[ci,ci,(CK.list 1),ci]; opt.run _ (
 opt.ask _ (p.cmp .lss a.2.2.1 (p.ofNat (p.len a.1))) (
 opt.need _ (p.rowOk a.1 A C)<|
 opt.need _ B<|
 opt.need _ (p.rowOk a.2.1 A C)<|
 opt.need _ B<|
 opt.bnd (W4w) _ (G77 p ((p.rdI a.1 A 0),((p.rdI a.1 A 1),((p.rdL a.1 A 2),((p.rdI a.1 A 3),((p.rdI a.2.1 A 0),((p.rdI a.2.1 A 1),((p.rdL a.2.1 A 2),((p.rdI a.2.1 A 3),()))))))))) fun b=>
 opt.ask _ (bif b.1 then Bool.false else Bool.true) (
 opt.ret _ (Sum.inr (Sum.inl (Bool.false,())))) (
 opt.ret _ (Sum.inl (a.1,(a.2.1,((p.ar .add .i64 a.2.2.1 (1:Int)),())))))) (
 opt.ret _ (Sum.inr (Sum.inr ()))))
def G34:(p:Prim)→W42w→Option (W4w):=
 fun p x=>
 opt.ask _ (p.cmp .neq (p.ofNat (p.len x.1)) (p.ofNat (p.len x.2.1))) (
 opt.ret _ (Bool.false,())) (
 opt.alt (W4w) (Unit) _ (
 z5q (u1s p) (x.1,(x.2.1,((0:Int),())))) (fun a=>
 opt.ret _ a) (fun b=>
 opt.bnd (Unit) _ (some b) fun c=>
 opt.ret _ (Bool.true,())))
theorem ok34:CtrOk PG u4d (G34 std):=okF vE (a:=an34) (l:=la34) (gC u9f (gN))
def F15:Prim→Tup (w72).scs→Option (STup (scss (w72).outs)):=
 fun p x=>G15 p x
def F20:Prim→Tup (w70).scs→Option (STup (scss (w70).outs)):=
 fun p x=>G20 p x
def u4b:Ctr:=
 ⟨41,[.list 4],[],[(.ret,⟨[(0, .bool)],[],1⟩)]⟩
def la41:List LA:=
 []
def ja41:List JA:=
 [⟨41,[fF,tT],0,[(AX.normal,⟨[(2, .bool)],[],11⟩)]⟩]
def u7z:List CF:=
 [⟨w70,F20⟩,⟨w72,F15⟩]
def an41:Anns:=
 ⟨u7z,ja41,[]⟩
def G41:(p:Prim)→W14w→Option (W4w):=
 fun p x=>
 opt.bnd (W4w) _ (
 opt.run (W4w) (
 opt.bnd (W4w) _ (G15 p x) fun a=>
 opt.ask _ (bif a.1 then Bool.false else Bool.true) (
 opt.bnd (W1w) _ (G20 p x) fun b=>
 opt.ret _ ((p.cmp .eql b.1 (0:Int)),())) (
 opt.ret _ (Bool.false,())))) fun c=>
 opt.ret _ c
theorem ok41:CtrOk PG u4b (G41 std):=okF vE (a:=an41) (l:=la41) (gC ok20 (gC ok15 (gN)))
def u3q:Ctr:=
 ⟨82,[.list 4, .list 4],[],[(.ret,⟨[(0, .int .i64)],[],1⟩)]⟩
def la82:List LA:=
 []
def ja82:List JA:=
 []
def u7e:List CF:=
 [⟨w70,F20⟩]
def an82:Anns:=
 ⟨u7e,ja82,[]⟩
def G82:(p:Prim)→W42w→Option (W1w):=
 fun p x=>
 opt.bnd (W1w) _ (G20 p (x.1,())) fun a=>
 opt.ask _ (p.cmp .neq a.1 (0:Int)) (
 opt.bnd (W1w) _ (G20 p (x.1,())) fun b=>
 opt.ret _ b) (
 opt.bnd (W1w) _ (G20 p x.2) fun c=>
 opt.ret _ c)
theorem ok82:CtrOk PG u3q (G82 std):=okF vE (a:=an82) (l:=la82) (gC ok20 (gN))
def u3o:Ctr:=
 ⟨93,[.list 4, .list 4],[],[(.ret,⟨[(0, .int .i64)],[],1⟩)]⟩
def la93:List LA:=
 [⟨93,[fF,tT,fF,tT,tT],0,⟨⟨[(0, .list 4),(1, .list 4),(5, .int .i64)],[],41⟩,[(AX.ret,⟨[(4, .int .i64)],[],41⟩),((AX.exit 0),⟨[],[],41⟩)]⟩⟩]
def ja93:List JA:=
 [⟨93,[fF,tT,fF,fF,tT,fF,tT,tT],0,[(AX.ret,⟨[(4, .int .i64)],[],41⟩),(AX.normal,⟨[(0, .list 4),(1, .list 4),(5, .int .i64)],[],41⟩)]⟩]
def u7a:List CF:=
 [⟨u1o,G77⟩,⟨v7s,G43⟩,⟨u3q,G82⟩]
def an93:Anns:=
 ⟨u7a,ja93,[]⟩
def v5g (p:Prim):W55w→Option (W55w⊕(W1w⊕Unit)):=
 fun a=>let A:=p.nat a.2.2.1;let B:=[ci,ci,(CK.list 1),ci];let E:=p.cmp .geq a.2.2.1 (0:Int); opt.run _ (
 opt.ask _ (p.cmp .lss a.2.2.1 (p.ofNat (p.len a.1))) (
 opt.alt (W1w) (W55w) _ (
 opt.run ((W1w⊕W55w)) (
 opt.need _ (p.rowOk a.1 A B)<|
 opt.need _ E<|
 opt.bnd (W1w) _ (G43 p (a.2.1,((p.rdI a.1 A 0),()))) fun b=>let C:=p.nat b.1;let F:=p.cmp .geq b.1 (0:Int);
 opt.ask _ F (
 opt.need _ (p.rowOk a.1 A B)<|
 opt.need _ E<|
 opt.need _ (p.rowOk a.2.1 C B)<|
 opt.need _ F<|
 opt.bnd (W4w) _ (G77 p ((p.rdI a.1 A 0),((p.rdI a.1 A 1),((p.rdL a.1 A 2),((p.rdI a.1 A 3),((p.rdI a.2.1 C 0),((p.rdI a.2.1 C 1),((p.rdL a.2.1 C 2),((p.rdI a.2.1 C 3),()))))))))) fun c=>
 opt.ask _ (bif c.1 then Bool.false else Bool.true) (
 opt.ret _ (Sum.inl ((15:Int),()))) (
 opt.ret _ (Sum.inr a))) (
 opt.ret _ (Sum.inr a)))) (fun d=>
 opt.ret _ (Sum.inr (Sum.inl d))) (fun e=>
 opt.bnd (W55w) _ (some e) fun f=>
 opt.ret _ (Sum.inl (f.1,(f.2.1,((p.ar .add .i64 f.2.2.1 (1:Int)),())))))) (
 opt.ret _ (Sum.inr (Sum.inr ()))))
def G93:(p:Prim)→W42w→Option (W1w):=
 fun p x=>
 opt.bnd (W1w) _ (G82 p x) fun a=>
 opt.ask _ (p.cmp .neq a.1 (0:Int)) (
 opt.bnd (W1w) _ (G82 p x) fun b=>
 opt.ret _ b) (
 opt.alt (W1w) (Unit) _ (
 z5q (v5g p) (x.1,(x.2.1,((0:Int),())))) (fun c=>
 opt.ret _ c) (fun d=>
 opt.bnd (Unit) _ (some d) fun e=>
 opt.ret _ ((0:Int),())))
theorem ok93:CtrOk PG u3o (G93 std):=okF vE (a:=an93) (l:=la93) (gC u9f (gC u5i (gC ok82 (gN))))
end Go.Am
end
section
namespace Go.Am
open D12
variable {fl fl':List Int→Bool}
theorem v26 {fl:List Int→Bool} {l:List Cd} {i:Nat} {c:Cd} (h:l[i]?=some c):(l.map (eC fl))[i]?=some (eC fl c):=by
 rw [eAg,h]; rfl
theorem v8q {l:List Int} {i:Nat} {c:Int} (h:l[i]?=some c):(l.map eI)[i]?=some (eI c):=by
 rw [eAg,h]; rfl
theorem u2h {fl:List Int→Bool} {l:List Cd} {i:Nat} {c:Cd} (h:l[i]?=some c):std.rdF (l.map (eC fl)) i 2 1=fl c.t:=by
 show dF 1 (((l.map (eC fl))[i]?.bind fun r=>r[2]?).getD .nilp)=_
 rw [v26 h]; exact w7u c
theorem v5u {α:Type} [DecidableEq α] {a b:List α} (d:α) (h:a.length=b.length):((List.range a.length).any fun i=>!decide (a.getD i d=b.getD i d))=!decide (a=b):=by
 rw [eCu,eCz]
 simp only [eBy,decide_eq_false_iff_not,eBo]
 constructor
 ·rintro ⟨i,hi,hne⟩ rfl; exact hne rfl
 ·intro hne
  refine Decidable.byContradiction fun hno=>hne (List.ext_getElem h fun i h1 h2=>?_)
  have:=Decidable.byContradiction fun hh=>hno ⟨i,h1,hh⟩
  simpa [eCi,h1,h2] using this
theorem eqL {α:Type} [DecidableEq α] (ea eb:List α→List (List D)) (he:∀ l,(ea l).length=l.length) (hf:∀ l,(eb l).length=l.length)
  {b:(List (List D)×(List (List D)×(Int×Unit)))→Option ((List (List D)×(List (List D)×(Int×Unit)))⊕((Bool×Unit)⊕Unit))} (a c:List α) (d:α)
  (step:∀ (i:Nat) m m',a[i]?=some m→c[i]?=some m'→(i:Int)<a.length→(i:Int)<c.length→b (ea a,(eb c,((i:Int),())))=if (!decide (m=m'))=true then some (.inr (.inl (false,()))) else some (.inl (ea a,(eb c,(((i+1:Nat):Int),())))))
  (stop:¬ (a.length:Int)<a.length→b (ea a,(eb c,((a.length:Int),())))=some (.inr (.inr ()))):
  opt.ask _ (std.cmp .neq (std.ofNat (std.len (ea a))) (std.ofNat (std.len (eb c)))) (opt.ret _ (false,())) (opt.alt (Bool×Unit) Unit _ (z5q b (ea a,(eb c,((0:Int),())))) (fun y=>opt.ret _ (y.1,())) (fun y=>opt.bnd Unit _ (some y) fun _=>opt.ret _ (true,())))=some (decide (a=c),()):=by
 by_cases hl:a.length=c.length
 ·have key:=z87 (b:=b) a.length (fun i=>(ea a,(eb c,((i:Int),())))) (fun i=>!decide (a.getD i d=c.getD i d)) (.inl (false,())) (.inr ()) (fun i hi=>by
   obtain ⟨m,hm⟩:=z1v hi
   obtain ⟨m',hm'⟩:=z1v (l:=c) (i:=i) (by omega)
   rw [z2g hm,z2g hm']
   exact step i m m' hm hm' (by omega) (by omega)) (stop (by omega))
  have key:z5q b (ea a,(eb c,((0:Int),())))=_:=key
  rw [v5u d hl] at key
  have hc:std.cmp .neq (std.ofNat (std.len (ea a))) (std.ofNat (std.len (eb c)))=false:=by simp [std,z3l,he,hf,hl]
  rw [hc,key]
  by_cases e:a=c
  ·simp [e,opt]
  ·simp [e,opt]
 ·have hne:a≠c:=fun h=>hl (by rw [h])
  have hc:std.cmp .neq (std.ofNat (std.len (ea a))) (std.ofNat (std.len (eb c)))=true:=by simp [std,z3l,he,hf]; omega
  rw [hc]
  simp [hne,opt]
theorem u0l (c d:Cd) (hc:c.t.length≤1000000):G77 std (c.n,(c.k,(z09 c.t,(c.a,(d.n,(d.k,(z09 d.t,(d.a,()))))))))=some (decide (c=d),()):=by
 obtain ⟨n1,k1,t1,a1⟩:=c
 obtain ⟨n2,k2,t2,a2⟩:=d
 simp only at hc⊢
 unfold G77
 by_cases e1:n1=n2
 ·by_cases e2:k1=k2
  ·by_cases e3:a1=a2
   ·subst e1 e2 e3
    by_cases hl:t1.length=t2.length
    ·have key:=z87 (b:=v71 std) t1.length (fun i=>(n1,(k1,(z09 t1,(a1,(n1,(k1,(z09 t2,(a1,((i:Int),())))))))))) (fun i=>!decide (t1.getD i 0=t2.getD i 0)) (.inl (false,())) (.inr ()) (fun i hi=>by
      obtain ⟨m,hm⟩:=z1v hi
      obtain ⟨m',hm'⟩:=z1v (l:=t2) (i:=i) (by omega)
      obtain ⟨hw,h0⟩:=stp i (by omega)
      have hlt:(i:Int)<t1.length:=by omega
      have hlb:(i:Int)<t2.length:=by omega
      simp only [z2g hm,z2g hm',v71,z2c,z2d,z0p,z09,z5r,y4u,z38,Int.reduceLT,Int.reduceEq,Int.reduceLE,hm,hm',hlt,hlb,h0,hw]) (by
      have hn:¬ (t1.length:Int)<t1.length:=by omega
      simp only [v71,z2c,z2d,z0p,z09,z5r,y4u,hn])
     have key:z5q (v71 std) (n1,(k1,(z09 t1,(a1,(n1,(k1,(z09 t2,(a1,((0:Int),())))))))))=_:=key
     rw [v5u 0 hl] at key
     have hll:((t1.length:Nat):Int)=(t2.length:Nat):=by omega
     simp only [z2c,z2d,z00,z38,Int.reduceLT,Int.reduceEq,Int.reduceLE,hll,key]
     by_cases e:t1=t2<;>simp [e]
    ·have hne:t1≠t2:=fun h=>hl (by rw [h])
     have hll:¬ ((t1.length:Nat):Int)=(t2.length:Nat):=by omega
     simp only [z2c,z2d,z00,z38,Int.reduceLT,Int.reduceEq,Int.reduceLE,hll,Cd.mk.injEq,hne]
     simp
   ·simp only [z2c,z2d,z38,Int.reduceLT,Int.reduceEq,Int.reduceLE,e1,e2,e3,Cd.mk.injEq]
    simp
  ·simp only [z2c,z2d,z38,Int.reduceLT,Int.reduceEq,Int.reduceLE,e1,e2,Cd.mk.injEq]
   simp
 ·simp only [z2c,z2d,z38,Int.reduceLT,Int.reduceEq,Int.reduceLE,e1,Cd.mk.injEq]
  simp
theorem u4z (a b:List Cd) (ha:a.length≤1000000) (hr:∀ c∈a,c.t.length≤1000000):G34 std (z0p fl a,(z0p fl' b,()))=some (decide (a=b),()):=by
 unfold G34
 refine eqL (z0p fl) (z0p fl') z2h z2h a b default (fun i m m' hm hm' hlt hlb=>?_) (fun hn=>?_)
 ·obtain ⟨hw,h0⟩:=stp i (by omega)
  have h77:=u0l m m' (hr m (eAu hm))
  simp only [u1s,z2c,z2d,z0p,z09,z5r,y4u,z38,Int.reduceLT,Int.reduceEq,Int.reduceLE,hm,hm',hlt,hlb,h0,hw]
  simp only [z09] at h77
  simp only [h77,z2c,z2d]
  by_cases e:m=m'<;>simp [e]
 ·simp only [u1s,z2c,z2d,z0p,z09,z5r,y4u,hn]
def atO (l:List Cd) (x:Int):Option Nat:=(List.range l.length).find? fun i=>decide ((l.getD i default).n=x)
def atI (l:List Cd) (x:Int):Int:=match atO l x with|some i=>(i:Int)|none=> -1
theorem v29 (l:List Cd) (x:Int) (hl:l.length≤1000000):G43 std (z0p fl l,(x,()))=some (atI l x,()):=by
 unfold G43 atI atO
 have key:=z6z (b:=v8a std) l.length (fun i=>(z0p fl l,(x,((i:Int),())))) (fun i=>decide ((l.getD i default).n=x)) (fun i=> .inl ((i:Int),())) (.inr ()) (fun i hi=>by
  obtain ⟨m,hm⟩:=z1v hi
  obtain ⟨hw,h0⟩:=stp i (by omega)
  have hlt:(i:Int)<l.length:=by omega
  simp only [z2g hm,v8a,z2c,z2d,z0p,z09,z5r,y4u,z38,Int.reduceLT,Int.reduceEq,Int.reduceLE,hm,hlt,h0,hw]) (by
  have hn:¬ (l.length:Int)<l.length:=by omega
  simp only [v8a,z2c,z2d,z0p,z09,z5r,y4u,hn])
 have key:z5q (v8a std) (z0p fl l,(x,((0:Int),())))=_:=key
 simp only [z2c,z2d,key]
 cases (List.range l.length).find? fun i=>decide ((l.getD i default).n=x)<;>rfl
theorem v9p (c d:Cd) (i:Nat) (m:Int) (hm:c.t[i]?=some m) (hd:d.t.length≤1000000):
  z5q (v78 std) (c.n,(c.k,(z09 c.t,(c.a,(d.n,(d.k,(z09 d.t,(d.a,((i:Int),((0:Int),()))))))))))=some (if d.t.contains m=true then .inl (true,()) else .inr (c.n,(c.k,(z09 c.t,(c.a,(d.n,(d.k,(z09 d.t,(d.a,((i:Int),())))))))))):=by
 have key:=z87 (b:=v78 std) d.t.length (fun j=>(c.n,(c.k,(z09 c.t,(c.a,(d.n,(d.k,(z09 d.t,(d.a,((i:Int),((j:Int),()))))))))))) (fun j=>decide (m=d.t.getD j 0)) (.inl (true,())) (.inr (c.n,(c.k,(z09 c.t,(c.a,(d.n,(d.k,(z09 d.t,(d.a,((i:Int),())))))))))) (fun j hj=>by
  obtain ⟨m',hm'⟩:=z1v hj
  have hw:=x9z (i:=j) (by omega)
  have h0:(0:Int)≤i:=by omega
  have h0':(0:Int)≤j:=by omega
  have hlt:(j:Int)<d.t.length:=by omega
  simp only [z2g hm',v78,z2c,z2d,z0p,z09,z5r,y4u,z38,Int.reduceLT,Int.reduceEq,Int.reduceLE,hm,hm',hlt,h0,h0',hw]) (by
  have hn:¬ (d.t.length:Int)<d.t.length:=by omega
  simp only [v78,z2c,z2d,z0p,z09,z5r,y4u,hn])
 have e:((List.range d.t.length).any fun j=>decide (m=d.t.getD j 0))=d.t.contains m:=by
  rw [x2s d.t 0 fun x=>decide (m=x),List.contains_eq_any_beq]
  congr 1
 rw [e] at key
 exact key
theorem v8j (c d:Cd) (hc:c.t.length≤1000000) (hd:d.t.length≤1000000):G44 std (c.n,(c.k,(z09 c.t,(c.a,(d.n,(d.k,(z09 d.t,(d.a,()))))))))=some (tch c d,()):=by
 unfold G44
 have key:=z87 (b:=v79 std) c.t.length (fun i=>(c.n,(c.k,(z09 c.t,(c.a,(d.n,(d.k,(z09 d.t,(d.a,((i:Int),())))))))))) (fun i=>d.t.contains (c.t.getD i 0)) (.inl (true,())) (.inr ()) (fun i hi=>by
  obtain ⟨m,hm⟩:=z1v hi
  obtain ⟨hw,h0⟩:=stp i (by omega)
  have hlt:(i:Int)<c.t.length:=by omega
  have h2:=v9p c d i m hm hd
  simp only [z09] at h2
  simp only [z2g hm,v79,z2c,z2d,z0p,z09,z5r,y4u,z38,Int.reduceLT,Int.reduceEq,Int.reduceLE,hm,hlt,h0,hw,h2]
  cases hq:d.t.contains m<;>simp [hw]) (by
  have hn:¬ (c.t.length:Int)<c.t.length:=by omega
  simp only [v79,z2c,z2d,z0p,z09,z5r,y4u,hn])
 have key:z5q (v79 std) (c.n,(c.k,(z09 c.t,(c.a,(d.n,(d.k,(z09 d.t,(d.a,((0:Int),())))))))))=_:=key
 rw [x2s c.t 0 fun x=>d.t.contains x] at key
 have e:(c.t.any fun x=>d.t.contains x)=tch c d:=rfl
 rw [e] at key
 simp only [z2c,z2d,key]
 cases tch c d<;>rfl
end Go.Am
end
section
namespace Go.Am
def eY (n:Int):List D:=[.int .u8 n]
def v7o (l:List Int):List (List D):=l.map eY
theorem v88 (n:Int):z3i [CK.int IntKind.u8] (eY n)=true:=rfl
theorem u8e (n:Int):dI ((eY n)[0]?.getD D.nilp)=n:=rfl
theorem v82 (l:List Int):(v7o l).length=l.length:=by simp [v7o]
end Go.Am
end
